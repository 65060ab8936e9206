/- Declarations that the closing texts need, part 8: joined by tools/slim.py. -/
import Derived.Test.YtccjopdlbolnhaaGreatZ7
import Derived.Test.YtccjopdlbolnhaaGreatRows
namespace Go.Proofs.YtccjopdlbolnhaaGreat.K
open Go Go.AM Go.Proofs
theorem cel3 : Tryz.prog.cellsOf 3 = 1 := by kernel_rfl
theorem cel4 : Tryz.prog.cellsOf 4 = 1 := by kernel_rfl
theorem cel9 : Tryz.prog.cellsOf 9 = 1 := by kernel_rfl
theorem cel22 : Tryz.prog.cellsOf 22 = 1 := by kernel_rfl
theorem cel23 : Tryz.prog.cellsOf 23 = 1 := by kernel_rfl
theorem cel25 : Tryz.prog.cellsOf 25 = 2 := by kernel_rfl
theorem pcs25 : pcs Tryz.prog 25 = some [(0, 22), (1, 23)] := by kernel_rfl
theorem cel26 : Tryz.prog.cellsOf 26 = 1 := by kernel_rfl
theorem cel27 : Tryz.prog.cellsOf 27 = 1 := by kernel_rfl
theorem cel28 : Tryz.prog.cellsOf 28 = 1 := by kernel_rfl
theorem cel30 : Tryz.prog.cellsOf 30 = 6 := by kernel_rfl
theorem pcs30 : pcs Tryz.prog 30 = some [(0, 25), (2, 26), (3, 27), (4, 28), (5, 28)] := by kernel_rfl
theorem cel32 : Tryz.prog.cellsOf 32 = 1 := by kernel_rfl
theorem cel33 : Tryz.prog.cellsOf 33 = 1 := by kernel_rfl
theorem cel35 : Tryz.prog.cellsOf 35 = 4 := by kernel_rfl
theorem pcs35 : pcs Tryz.prog 35 = some [(0, 3), (1, 3), (2, 32), (3, 33)] := by kernel_rfl
theorem cel55 : Tryz.prog.cellsOf 55 = 2 := by kernel_rfl
theorem pcs55 : pcs Tryz.prog 55 = some [(0, 3), (1, 3)] := by kernel_rfl
theorem cel57 : Tryz.prog.cellsOf 57 = 4 := by kernel_rfl
theorem pcs57 : pcs Tryz.prog 57 = some [(0, 3), (1, 3), (2, 3), (3, 3)] := by kernel_rfl
theorem cel58 : Tryz.prog.cellsOf 58 = 1 := by kernel_rfl
theorem cel60 : Tryz.prog.cellsOf 60 = 16 := by kernel_rfl
theorem pcs60 : pcs Tryz.prog 60 = some [(0, 9), (1, 58), (2, 57), (6, 57), (10, 3), (11, 3), (12, 3), (13, 3), (14, 3), (15, 4)] := by kernel_rfl
theorem cel62 : Tryz.prog.cellsOf 62 = 14 := by kernel_rfl
theorem pcs62 : pcs Tryz.prog 62 = some [(0, 9), (1, 3), (2, 3), (3, 3), (4, 58), (5, 3), (6, 3), (7, 3), (8, 3), (9, 3), (10, 3), (11, 3), (12, 3), (13, 3)] := by kernel_rfl
theorem cel81 : Tryz.prog.cellsOf 81 = 2 := by kernel_rfl
theorem pcs81 : pcs Tryz.prog 81 = some [(0, 3), (1, 4)] := by kernel_rfl
theorem cel85 : Tryz.prog.cellsOf 85 = 2 := by kernel_rfl
theorem pcs85 : pcs Tryz.prog 85 = some [(0, 3), (1, 3)] := by kernel_rfl
theorem cel123 : Tryz.prog.cellsOf 123 = 1 := by kernel_rfl
theorem cel125 : Tryz.prog.cellsOf 125 = 6 := by kernel_rfl
theorem pcs125 : pcs Tryz.prog 125 = some [(0, 3), (1, 3), (2, 3), (3, 3), (4, 123), (5, 123)] := by kernel_rfl
theorem cel128 : Tryz.prog.cellsOf 128 = 2 := by kernel_rfl
theorem pcs128 : pcs Tryz.prog 128 = some [(0, 3), (1, 3)] := by kernel_rfl
end Go.Proofs.YtccjopdlbolnhaaGreat.K
set_option linter.unusedVariables false
set_option linter.unusedSimpArgs false
namespace Go.Proofs.YtccjopdlbolnhaaGreat.K
open Go Go.AM Go.Proofs
mutual
theorem dsz_le {H : Type} : (d : DataW H) → dsz d ≤ Rows.uptoBulk d
  | .lit l => by cases l <;> simp [dsz, Rows.uptoBulk]
  | .nil => by simp [dsz, Rows.uptoBulk]
  | .ptr d => by have := dsz_le d; simp only [dsz, Rows.uptoBulk]; omega
  | .slice es sp => by have := dszs_le es; have := dszs_le sp; simp only [dsz, Rows.uptoBulk]; omega
  | .agg ps => by have := dszs_le ps; simp only [dsz, Rows.uptoBulk]; omega
  | .iface _ d => by have := dsz_le d; simp only [dsz, Rows.uptoBulk]; omega
  | .map es => by simp only [dsz, Rows.uptoBulk]; omega
  | .held h => by simp [dsz, Rows.uptoBulk]
theorem dszs_le {H : Type} : (l : List (DataW H)) → dszs l ≤ Rows.uptoBulkAll l
  | [] => by simp [dszs, Rows.uptoBulkAll]
  | d :: r => by have := dsz_le d; have := dszs_le r; simp only [dszs, Rows.uptoBulkAll]; omega
end
theorem small_dszs {H : Type} {l : List (DataW H)} (h : Rows.uptoSmall H l = true) : dszs l ≤ 1048576 := by
  have h1 := dszs_le l
  have h2 : Rows.uptoBulkAll l ≤ 1048576 := of_decide_eq_true h
  omega
end Go.Proofs.YtccjopdlbolnhaaGreat.K
set_option linter.unusedVariables false
set_option linter.unusedSimpArgs false
namespace Go.Proofs.YtccjopdlbolnhaaGreat.K
open Go Go.AM Go.Proofs
abbrev I64 (n : Int) : Prop := -9223372036854775808 ≤ n ∧ n ≤ 9223372036854775807
def eI (n : Int) : PV := .int .i64 n
def eB (b : Bool) : PV := .bool b
def eS (s : List UInt8) : PV := .str s
def eP (p : Int × Int) : PV := .agg [.int .i64 p.1, .int .i64 p.2]
@[go_sem] theorem eI_eq (n : Int) : eI n = .int .i64 n := Eq.trans rfl rfl
@[go_sem] theorem eB_eq (b : Bool) : eB b = .bool b := Eq.trans rfl rfl
@[go_sem] theorem eS_eq (s : List UInt8) : eS s = .str s := Eq.trans rfl rfl
@[go_sem] theorem eP_eq (p : Int × Int) : eP p = .agg [.int .i64 p.1, .int .i64 p.2] := Eq.trans rfl rfl
@[go_sem] theorem allS_eI (l : List Int) : allS 1 (l.map eI) = true := allS_map (f := eI) (S := 1) (fun _ => rfl) l
@[go_sem] theorem okE_eI (l : List Int) : okE 1 (l.map eI) = true := okE_map fun _ => rfl
@[go_sem] theorem allS_eB (l : List Bool) : allS 1 (l.map eB) = true := allS_map (f := eB) (S := 1) (fun _ => rfl) l
@[go_sem] theorem okE_eB (l : List Bool) : okE 1 (l.map eB) = true := okE_map fun _ => rfl
@[go_sem] theorem allS_eS (l : List (List UInt8)) : allS 1 (l.map eS) = true := allS_map (f := eS) (S := 1) (fun _ => rfl) l
@[go_sem] theorem okE_eS (l : List (List UInt8)) : okE 1 (l.map eS) = true := okE_map fun _ => rfl
@[go_sem] theorem allS_eP (l : List (Int × Int)) : allS 2 (l.map eP) = true := allS_map (f := eP) (S := 2) (fun _ => rfl) l
@[go_sem] theorem okE_eP (l : List (Int × Int)) : okE 2 (l.map eP) = true := okE_map fun _ => rfl
theorem fit_ints {B xs} (h : ∀ y ∈ xs, FitV Tryz.prog B 3 y) : ∃ l : List Int, xs = l.map eI ∧ ∀ n ∈ l, I64 n :=
  row_map (f := eI) fun y hy => by
    obtain ⟨n, rfl, w⟩ := fit_int Tryz.underlying3 (h y hy)
    exact ⟨n, rfl, i64_wf w⟩
theorem fit_bools {B xs} (h : ∀ y ∈ xs, FitV Tryz.prog B 4 y) : ∃ l : List Bool, xs = l.map eB ∧ ∀ b ∈ l, True :=
  row_map (f := eB) fun y hy => by
    obtain ⟨b, rfl⟩ := fit_bool Tryz.underlying4 (h y hy)
    exact ⟨b, rfl, trivial⟩
theorem fit_strs {B xs} (h : ∀ y ∈ xs, FitV Tryz.prog B 9 y) : ∃ l : List (List UInt8), xs = l.map eS ∧ ∀ s ∈ l, s.length ≤ B :=
  row_map (f := eS) fun y hy => by
    obtain ⟨s, rfl, w, _⟩ := fit_str Tryz.underlying9 (h y hy)
    exact ⟨s, rfl, w⟩
theorem len2 {α : Type} {l : List α} (h : l.length = 2) : ∃ a0 a1, l = [a0, a1] := by
  match l, h with | [a0, a1], _ => exact ⟨a0, a1, rfl⟩
theorem len6 {α : Type} {l : List α} (h : l.length = 6) : ∃ a0 a1 a2 a3 a4 a5, l = [a0, a1, a2, a3, a4, a5] := by
  match l, h with | [a0, a1, a2, a3, a4, a5], _ => exact ⟨a0, a1, a2, a3, a4, a5, rfl⟩
theorem len14 {α : Type} {l : List α} (h : l.length = 14) : ∃ a0 a1 a2 a3 a4 a5 a6 a7 a8 a9 a10 a11 a12 a13, l = [a0, a1, a2, a3, a4, a5, a6, a7, a8, a9, a10, a11, a12, a13] := by
  match l, h with | [a0, a1, a2, a3, a4, a5, a6, a7, a8, a9, a10, a11, a12, a13], _ => exact ⟨a0, a1, a2, a3, a4, a5, a6, a7, a8, a9, a10, a11, a12, a13, rfl⟩
theorem len4 {α : Type} {l : List α} (h : l.length = 4) : ∃ a0 a1 a2 a3, l = [a0, a1, a2, a3] := by
  match l, h with | [a0, a1, a2, a3], _ => exact ⟨a0, a1, a2, a3, rfl⟩
theorem len16 {α : Type} {l : List α} (h : l.length = 16) : ∃ a0 a1 a2 a3 a4 a5 a6 a7 a8 a9 a10 a11 a12 a13 a14 a15, l = [a0, a1, a2, a3, a4, a5, a6, a7, a8, a9, a10, a11, a12, a13, a14, a15] := by
  match l, h with | [a0, a1, a2, a3, a4, a5, a6, a7, a8, a9, a10, a11, a12, a13, a14, a15], _ => exact ⟨a0, a1, a2, a3, a4, a5, a6, a7, a8, a9, a10, a11, a12, a13, a14, a15, rfl⟩
structure Pt where
  t : Int
  a : Int
  deriving Inhabited
def cPt (x : Pt) : List PV := [.int .i64 x.t, .int .i64 x.a]
def ePt (x : Pt) : PV := .agg [.int .i64 x.t, .int .i64 x.a]
@[go_sem] theorem ePt_eq (x : Pt) : ePt x = .agg [.int .i64 x.t, .int .i64 x.a] := Eq.trans rfl rfl
@[go_sem] theorem allS_ePt (l : List Pt) : allS 2 (l.map ePt) = true := allS_map (f := ePt) (S := 2) (fun _ => rfl) l
@[go_sem] theorem okE_ePt (l : List Pt) : okE 2 (l.map ePt) = true := okE_map fun _ => rfl
def Pt.wf (B : Nat) (x : Pt) : Prop := I64 x.t ∧ I64 x.a
theorem fits_Pt {B m cs} (h : fits Tryz.prog B m 128 cs) : ∃ x : Pt, cs = cPt x ∧ x.wf B := by
  obtain ⟨h1, m', h2⟩ := fits_agg pcs128 cel128 h
  obtain ⟨a0, a1, rfl⟩ := len2 h1
  obtain ⟨n0, e0, w0⟩ := fits_int Tryz.underlying3 (h2 (0, 3) (by simp))
  obtain ⟨n1, e1, w1⟩ := fits_int Tryz.underlying3 (h2 (1, 3) (by simp))
  simp [cel3] at e0 e1
  subst e0; subst e1
  exact ⟨⟨n0, n1⟩, rfl, i64_wf w0, i64_wf w1⟩
theorem fit_Pt {B v} (h : FitV Tryz.prog B 128 v) : ∃ x : Pt, v = ePt x ∧ x.wf B := by
  obtain ⟨k, cs, h, e⟩ := h.out
  obtain ⟨x, rfl, hw⟩ := fits_Pt h
  exact ⟨x, e.trans (by rw [mkEl, if_pos (pcs_tagg pcs128)]; rfl), hw⟩
structure Arc where
  src : Int
  dst : Int
  prof : Int
  miles : Int
  travel_c : Bool
  travel : List (Pt)
  slow_c : Bool
  slow : List (Pt)
  deriving Inhabited
def cArc (x : Arc) : List PV := [.int .i64 x.src, .int .i64 x.dst, .int .i64 x.prof, .int .i64 x.miles, .list x.travel_c (x.travel.map ePt), .list x.slow_c (x.slow.map ePt)]
def eArc (x : Arc) : PV := .agg [.int .i64 x.src, .int .i64 x.dst, .int .i64 x.prof, .int .i64 x.miles, .list x.travel_c (x.travel.map ePt), .list x.slow_c (x.slow.map ePt)]
@[go_sem] theorem eArc_eq (x : Arc) : eArc x = .agg [.int .i64 x.src, .int .i64 x.dst, .int .i64 x.prof, .int .i64 x.miles, .list x.travel_c (x.travel.map ePt), .list x.slow_c (x.slow.map ePt)] := Eq.trans rfl rfl
@[go_sem] theorem allS_eArc (l : List Arc) : allS 6 (l.map eArc) = true := allS_map (f := eArc) (S := 6) (fun _ => rfl) l
@[go_sem] theorem okE_eArc (l : List Arc) : okE 6 (l.map eArc) = true := okE_map fun _ => rfl
def Arc.wf (B : Nat) (x : Arc) : Prop := I64 x.src ∧ I64 x.dst ∧ I64 x.prof ∧ I64 x.miles ∧ x.travel.length ≤ B ∧ (∀ y ∈ x.travel, Pt.wf B y) ∧ x.slow.length ≤ B ∧ (∀ y ∈ x.slow, Pt.wf B y)
theorem fits_Arc {B m cs} (h : fits Tryz.prog B m 125 cs) : ∃ x : Arc, cs = cArc x ∧ x.wf B := by
  obtain ⟨h1, m', h2⟩ := fits_agg pcs125 cel125 h
  obtain ⟨a0, a1, a2, a3, a4, a5, rfl⟩ := len6 h1
  obtain ⟨n0, e0, w0⟩ := fits_int Tryz.underlying3 (h2 (0, 3) (by simp))
  obtain ⟨n1, e1, w1⟩ := fits_int Tryz.underlying3 (h2 (1, 3) (by simp))
  obtain ⟨n2, e2, w2⟩ := fits_int Tryz.underlying3 (h2 (2, 3) (by simp))
  obtain ⟨n3, e3, w3⟩ := fits_int Tryz.underlying3 (h2 (3, 3) (by simp))
  obtain ⟨y4, e4, w4, _, z4⟩ := fits_slice Tryz.underlying123 (h2 (4, 123) (by simp))
  obtain ⟨n4, rfl, u4⟩ := row_map (f := ePt) fun y hy => fit_Pt (z4 y hy)
  obtain ⟨y5, e5, w5, _, z5⟩ := fits_slice Tryz.underlying123 (h2 (5, 123) (by simp))
  obtain ⟨n5, rfl, u5⟩ := row_map (f := ePt) fun y hy => fit_Pt (z5 y hy)
  simp [cel123, cel3] at e0 e1 e2 e3 e4 e5
  subst e0; subst e1; subst e2; subst e3; subst e4; subst e5
  exact ⟨⟨n0, n1, n2, n3, false, n4, false, n5⟩, rfl, i64_wf w0, i64_wf w1, i64_wf w2, i64_wf w3, by simpa using w4, u4, by simpa using w5, u5⟩
theorem fit_Arc {B v} (h : FitV Tryz.prog B 125 v) : ∃ x : Arc, v = eArc x ∧ x.wf B := by
  obtain ⟨k, cs, h, e⟩ := h.out
  obtain ⟨x, rfl, hw⟩ := fits_Arc h
  exact ⟨x, e.trans (by rw [mkEl, if_pos (pcs_tagg pcs125)]; rfl), hw⟩
structure Net where
  places_c : Bool
  places : List (List UInt8)
  arcs_c : Bool
  arcs : List (Arc)
  deriving Inhabited
def cNet (x : Net) : List PV := [.list x.places_c (x.places.map eS), .list x.arcs_c (x.arcs.map eArc)]
def eNet (x : Net) : PV := .agg [.list x.places_c (x.places.map eS), .list x.arcs_c (x.arcs.map eArc)]
@[go_sem] theorem eNet_eq (x : Net) : eNet x = .agg [.list x.places_c (x.places.map eS), .list x.arcs_c (x.arcs.map eArc)] := Eq.trans rfl rfl
@[go_sem] theorem allS_eNet (l : List Net) : allS 2 (l.map eNet) = true := allS_map (f := eNet) (S := 2) (fun _ => rfl) l
@[go_sem] theorem okE_eNet (l : List Net) : okE 2 (l.map eNet) = true := okE_map fun _ => rfl
def Net.wf (B : Nat) (x : Net) : Prop := x.places.length ≤ B ∧ (∀ s ∈ x.places, s.length ≤ B) ∧ x.arcs.length ≤ B ∧ (∀ y ∈ x.arcs, Arc.wf B y)
theorem fits_Net {B m cs} (h : fits Tryz.prog B m 25 cs) : ∃ x : Net, cs = cNet x ∧ x.wf B := by
  obtain ⟨h1, m', h2⟩ := fits_agg pcs25 cel25 h
  obtain ⟨a0, a1, rfl⟩ := len2 h1
  obtain ⟨y0, e0, w0, _, z0⟩ := fits_slice Tryz.underlying22 (h2 (0, 22) (by simp))
  obtain ⟨n0, rfl, u0⟩ := fit_strs z0
  obtain ⟨y1, e1, w1, _, z1⟩ := fits_slice Tryz.underlying23 (h2 (1, 23) (by simp))
  obtain ⟨n1, rfl, u1⟩ := row_map (f := eArc) fun y hy => fit_Arc (z1 y hy)
  simp [cel23, cel22] at e0 e1
  subst e0; subst e1
  exact ⟨⟨false, n0, false, n1⟩, rfl, by simpa using w0, u0, by simpa using w1, u1⟩
structure Typ where
  name : List UInt8
  count : Int
  src : Int
  dst : Int
  cap_c : Bool
  cap : List (Int)
  skills : Int
  prof : Int
  opn : Int
  cls : Int
  drive : Int
  rest : Int
  fixed : Int
  perMile : Int
  perTick : Int
  deriving Inhabited
def cTyp (x : Typ) : List PV := [.str x.name, .int .i64 x.count, .int .i64 x.src, .int .i64 x.dst, .list x.cap_c (x.cap.map eI), .int .i64 x.skills, .int .i64 x.prof, .int .i64 x.opn, .int .i64 x.cls, .int .i64 x.drive, .int .i64 x.rest, .int .i64 x.fixed, .int .i64 x.perMile, .int .i64 x.perTick]
def eTyp (x : Typ) : PV := .agg [.str x.name, .int .i64 x.count, .int .i64 x.src, .int .i64 x.dst, .list x.cap_c (x.cap.map eI), .int .i64 x.skills, .int .i64 x.prof, .int .i64 x.opn, .int .i64 x.cls, .int .i64 x.drive, .int .i64 x.rest, .int .i64 x.fixed, .int .i64 x.perMile, .int .i64 x.perTick]
@[go_sem] theorem eTyp_eq (x : Typ) : eTyp x = .agg [.str x.name, .int .i64 x.count, .int .i64 x.src, .int .i64 x.dst, .list x.cap_c (x.cap.map eI), .int .i64 x.skills, .int .i64 x.prof, .int .i64 x.opn, .int .i64 x.cls, .int .i64 x.drive, .int .i64 x.rest, .int .i64 x.fixed, .int .i64 x.perMile, .int .i64 x.perTick] := Eq.trans rfl rfl
@[go_sem] theorem allS_eTyp (l : List Typ) : allS 14 (l.map eTyp) = true := allS_map (f := eTyp) (S := 14) (fun _ => rfl) l
@[go_sem] theorem okE_eTyp (l : List Typ) : okE 14 (l.map eTyp) = true := okE_map fun _ => rfl
def Typ.wf (B : Nat) (x : Typ) : Prop := x.name.length ≤ B ∧ I64 x.count ∧ I64 x.src ∧ I64 x.dst ∧ x.cap.length ≤ B ∧ (∀ n ∈ x.cap, I64 n) ∧ I64 x.skills ∧ I64 x.prof ∧ I64 x.opn ∧ I64 x.cls ∧ I64 x.drive ∧ I64 x.rest ∧ I64 x.fixed ∧ I64 x.perMile ∧ I64 x.perTick
theorem fits_Typ {B m cs} (h : fits Tryz.prog B m 62 cs) : ∃ x : Typ, cs = cTyp x ∧ x.wf B := by
  obtain ⟨h1, m', h2⟩ := fits_agg pcs62 cel62 h
  obtain ⟨a0, a1, a2, a3, a4, a5, a6, a7, a8, a9, a10, a11, a12, a13, rfl⟩ := len14 h1
  obtain ⟨n0, e0, w0, _⟩ := fits_str Tryz.underlying9 (h2 (0, 9) (by simp))
  obtain ⟨n1, e1, w1⟩ := fits_int Tryz.underlying3 (h2 (1, 3) (by simp))
  obtain ⟨n2, e2, w2⟩ := fits_int Tryz.underlying3 (h2 (2, 3) (by simp))
  obtain ⟨n3, e3, w3⟩ := fits_int Tryz.underlying3 (h2 (3, 3) (by simp))
  obtain ⟨y4, e4, w4, _, z4⟩ := fits_slice Tryz.underlying58 (h2 (4, 58) (by simp))
  obtain ⟨n4, rfl, u4⟩ := fit_ints z4
  obtain ⟨n5, e5, w5⟩ := fits_int Tryz.underlying3 (h2 (5, 3) (by simp))
  obtain ⟨n6, e6, w6⟩ := fits_int Tryz.underlying3 (h2 (6, 3) (by simp))
  obtain ⟨n7, e7, w7⟩ := fits_int Tryz.underlying3 (h2 (7, 3) (by simp))
  obtain ⟨n8, e8, w8⟩ := fits_int Tryz.underlying3 (h2 (8, 3) (by simp))
  obtain ⟨n9, e9, w9⟩ := fits_int Tryz.underlying3 (h2 (9, 3) (by simp))
  obtain ⟨n10, e10, w10⟩ := fits_int Tryz.underlying3 (h2 (10, 3) (by simp))
  obtain ⟨n11, e11, w11⟩ := fits_int Tryz.underlying3 (h2 (11, 3) (by simp))
  obtain ⟨n12, e12, w12⟩ := fits_int Tryz.underlying3 (h2 (12, 3) (by simp))
  obtain ⟨n13, e13, w13⟩ := fits_int Tryz.underlying3 (h2 (13, 3) (by simp))
  simp [cel58, cel3, cel9] at e0 e1 e2 e3 e4 e5 e6 e7 e8 e9 e10 e11 e12 e13
  subst e0; subst e1; subst e2; subst e3; subst e4; subst e5; subst e6; subst e7; subst e8; subst e9; subst e10; subst e11; subst e12; subst e13
  exact ⟨⟨n0, n1, n2, n3, false, n4, n5, n6, n7, n8, n9, n10, n11, n12, n13⟩, rfl, w0, i64_wf w1, i64_wf w2, i64_wf w3, by simpa using w4, u4, i64_wf w5, i64_wf w6, i64_wf w7, i64_wf w8, i64_wf w9, i64_wf w10, i64_wf w11, i64_wf w12, i64_wf w13⟩
theorem fit_Typ {B v} (h : FitV Tryz.prog B 62 v) : ∃ x : Typ, v = eTyp x ∧ x.wf B := by
  obtain ⟨k, cs, h, e⟩ := h.out
  obtain ⟨x, rfl, hw⟩ := fits_Typ h
  exact ⟨x, e.trans (by rw [mkEl, if_pos (pcs_tagg pcs62)]; rfl), hw⟩
structure Stp where
  place : Int
  opn : Int
  cls : Int
  serv : Int
  deriving Inhabited
def cStp (x : Stp) : List PV := [.int .i64 x.place, .int .i64 x.opn, .int .i64 x.cls, .int .i64 x.serv]
def eStp (x : Stp) : PV := .agg [.int .i64 x.place, .int .i64 x.opn, .int .i64 x.cls, .int .i64 x.serv]
@[go_sem] theorem eStp_eq (x : Stp) : eStp x = .agg [.int .i64 x.place, .int .i64 x.opn, .int .i64 x.cls, .int .i64 x.serv] := Eq.trans rfl rfl
@[go_sem] theorem allS_eStp (l : List Stp) : allS 4 (l.map eStp) = true := allS_map (f := eStp) (S := 4) (fun _ => rfl) l
@[go_sem] theorem okE_eStp (l : List Stp) : okE 4 (l.map eStp) = true := okE_map fun _ => rfl
def Stp.wf (B : Nat) (x : Stp) : Prop := I64 x.place ∧ I64 x.opn ∧ I64 x.cls ∧ I64 x.serv
theorem fits_Stp {B m cs} (h : fits Tryz.prog B m 57 cs) : ∃ x : Stp, cs = cStp x ∧ x.wf B := by
  obtain ⟨h1, m', h2⟩ := fits_agg pcs57 cel57 h
  obtain ⟨a0, a1, a2, a3, rfl⟩ := len4 h1
  obtain ⟨n0, e0, w0⟩ := fits_int Tryz.underlying3 (h2 (0, 3) (by simp))
  obtain ⟨n1, e1, w1⟩ := fits_int Tryz.underlying3 (h2 (1, 3) (by simp))
  obtain ⟨n2, e2, w2⟩ := fits_int Tryz.underlying3 (h2 (2, 3) (by simp))
  obtain ⟨n3, e3, w3⟩ := fits_int Tryz.underlying3 (h2 (3, 3) (by simp))
  simp [cel3] at e0 e1 e2 e3
  subst e0; subst e1; subst e2; subst e3
  exact ⟨⟨n0, n1, n2, n3⟩, rfl, i64_wf w0, i64_wf w1, i64_wf w2, i64_wf w3⟩
theorem fit_P {B v} (h : FitV Tryz.prog B 85 v) : ∃ x : Int × Int, v = eP x ∧ I64 x.1 ∧ I64 x.2 := by
  obtain ⟨k, cs, h, e⟩ := h.out
  obtain ⟨h1, m', h2⟩ := fits_agg pcs85 cel85 h
  obtain ⟨a, b, rfl⟩ := len2 h1
  obtain ⟨n0, e0, w0⟩ := fits_int Tryz.underlying3 (h2 (0, 3) (by simp))
  obtain ⟨n1, e1, w1⟩ := fits_int Tryz.underlying3 (h2 (1, 3) (by simp))
  simp [cel3] at e0 e1
  subst e0; subst e1
  exact ⟨(n0, n1), e.trans (by rw [mkEl, if_pos (pcs_tagg pcs85)]; rfl), i64_wf w0, i64_wf w1⟩
structure Ord where
  name : List UInt8
  load_c : Bool
  load : List (Int)
  pick : Stp
  drp : Stp
  skills : Int
  penalty : Int
  split : Int
  last : Int
  now : Int
  off : Bool
  deriving Inhabited
def cOrd (x : Ord) : List PV := [.str x.name, .list x.load_c (x.load.map eI), .int .i64 x.pick.place, .int .i64 x.pick.opn, .int .i64 x.pick.cls, .int .i64 x.pick.serv, .int .i64 x.drp.place, .int .i64 x.drp.opn, .int .i64 x.drp.cls, .int .i64 x.drp.serv, .int .i64 x.skills, .int .i64 x.penalty, .int .i64 x.split, .int .i64 x.last, .int .i64 x.now, .bool x.off]
def eOrd (x : Ord) : PV := .agg [.str x.name, .list x.load_c (x.load.map eI), .int .i64 x.pick.place, .int .i64 x.pick.opn, .int .i64 x.pick.cls, .int .i64 x.pick.serv, .int .i64 x.drp.place, .int .i64 x.drp.opn, .int .i64 x.drp.cls, .int .i64 x.drp.serv, .int .i64 x.skills, .int .i64 x.penalty, .int .i64 x.split, .int .i64 x.last, .int .i64 x.now, .bool x.off]
@[go_sem] theorem eOrd_eq (x : Ord) : eOrd x = .agg [.str x.name, .list x.load_c (x.load.map eI), .int .i64 x.pick.place, .int .i64 x.pick.opn, .int .i64 x.pick.cls, .int .i64 x.pick.serv, .int .i64 x.drp.place, .int .i64 x.drp.opn, .int .i64 x.drp.cls, .int .i64 x.drp.serv, .int .i64 x.skills, .int .i64 x.penalty, .int .i64 x.split, .int .i64 x.last, .int .i64 x.now, .bool x.off] := Eq.trans rfl rfl
@[go_sem] theorem allS_eOrd (l : List Ord) : allS 16 (l.map eOrd) = true := allS_map (f := eOrd) (S := 16) (fun _ => rfl) l
@[go_sem] theorem okE_eOrd (l : List Ord) : okE 16 (l.map eOrd) = true := okE_map fun _ => rfl
def Ord.wf (B : Nat) (x : Ord) : Prop := x.name.length ≤ B ∧ x.load.length ≤ B ∧ (∀ n ∈ x.load, I64 n) ∧ Stp.wf B x.pick ∧ Stp.wf B x.drp ∧ I64 x.skills ∧ I64 x.penalty ∧ I64 x.split ∧ I64 x.last ∧ I64 x.now
theorem fits_Ord {B m cs} (h : fits Tryz.prog B m 60 cs) : ∃ x : Ord, cs = cOrd x ∧ x.wf B := by
  obtain ⟨h1, m', h2⟩ := fits_agg pcs60 cel60 h
  obtain ⟨a0, a1, a2, a3, a4, a5, a6, a7, a8, a9, a10, a11, a12, a13, a14, a15, rfl⟩ := len16 h1
  obtain ⟨n0, e0, w0, _⟩ := fits_str Tryz.underlying9 (h2 (0, 9) (by simp))
  obtain ⟨y1, e1, w1, _, z1⟩ := fits_slice Tryz.underlying58 (h2 (1, 58) (by simp))
  obtain ⟨n1, rfl, u1⟩ := fit_ints z1
  obtain ⟨n2, e2, w2⟩ := fits_Stp (h2 (2, 57) (by simp))
  obtain ⟨n3, e3, w3⟩ := fits_Stp (h2 (6, 57) (by simp))
  obtain ⟨n4, e4, w4⟩ := fits_int Tryz.underlying3 (h2 (10, 3) (by simp))
  obtain ⟨n5, e5, w5⟩ := fits_int Tryz.underlying3 (h2 (11, 3) (by simp))
  obtain ⟨n6, e6, w6⟩ := fits_int Tryz.underlying3 (h2 (12, 3) (by simp))
  obtain ⟨n7, e7, w7⟩ := fits_int Tryz.underlying3 (h2 (13, 3) (by simp))
  obtain ⟨n8, e8, w8⟩ := fits_int Tryz.underlying3 (h2 (14, 3) (by simp))
  obtain ⟨n9, e9⟩ := fits_bool Tryz.underlying4 (h2 (15, 4) (by simp))
  simp [cel58, cel57, cel4, cel3, cel9, cStp, cStp] at e0 e1 e2 e3 e4 e5 e6 e7 e8 e9
  subst e0; subst e1; obtain ⟨rfl, rfl, rfl, rfl⟩ := e2; obtain ⟨rfl, rfl, rfl, rfl⟩ := e3; subst e4; subst e5; subst e6; subst e7; subst e8; subst e9
  exact ⟨⟨n0, false, n1, n2, n3, n4, n5, n6, n7, n8, n9⟩, rfl, w0, by simpa using w1, u1, w2, w3, i64_wf w4, i64_wf w5, i64_wf w6, i64_wf w7, i64_wf w8⟩
theorem fit_Ord {B v} (h : FitV Tryz.prog B 60 v) : ∃ x : Ord, v = eOrd x ∧ x.wf B := by
  obtain ⟨k, cs, h, e⟩ := h.out
  obtain ⟨x, rfl, hw⟩ := fits_Ord h
  exact ⟨x, e.trans (by rw [mkEl, if_pos (pcs_tagg pcs60)]; rfl), hw⟩
structure Inst where
  net : Net
  types_c : Bool
  types : List (Typ)
  orders_c : Bool
  orders : List (Ord)
  apart_c : Bool
  apart : List (Int × Int)
  before_c : Bool
  before : List (Int × Int)
  deriving Inhabited
def cInst (x : Inst) : List PV := [.list x.net.places_c (x.net.places.map eS), .list x.net.arcs_c (x.net.arcs.map eArc), .list x.types_c (x.types.map eTyp), .list x.orders_c (x.orders.map eOrd), .list x.apart_c (x.apart.map eP), .list x.before_c (x.before.map eP)]
def eInst (x : Inst) : PV := .agg [.list x.net.places_c (x.net.places.map eS), .list x.net.arcs_c (x.net.arcs.map eArc), .list x.types_c (x.types.map eTyp), .list x.orders_c (x.orders.map eOrd), .list x.apart_c (x.apart.map eP), .list x.before_c (x.before.map eP)]
@[go_sem] theorem eInst_eq (x : Inst) : eInst x = .agg [.list x.net.places_c (x.net.places.map eS), .list x.net.arcs_c (x.net.arcs.map eArc), .list x.types_c (x.types.map eTyp), .list x.orders_c (x.orders.map eOrd), .list x.apart_c (x.apart.map eP), .list x.before_c (x.before.map eP)] := Eq.trans rfl rfl
@[go_sem] theorem allS_eInst (l : List Inst) : allS 6 (l.map eInst) = true := allS_map (f := eInst) (S := 6) (fun _ => rfl) l
@[go_sem] theorem okE_eInst (l : List Inst) : okE 6 (l.map eInst) = true := okE_map fun _ => rfl
def Inst.wf (B : Nat) (x : Inst) : Prop := Net.wf B x.net ∧ x.types.length ≤ B ∧ (∀ y ∈ x.types, Typ.wf B y) ∧ x.orders.length ≤ B ∧ (∀ y ∈ x.orders, Ord.wf B y) ∧ x.apart.length ≤ B ∧ (∀ p ∈ x.apart, I64 p.1 ∧ I64 p.2) ∧ x.before.length ≤ B ∧ (∀ p ∈ x.before, I64 p.1 ∧ I64 p.2)
theorem fits_Inst {B m cs} (h : fits Tryz.prog B m 30 cs) : ∃ x : Inst, cs = cInst x ∧ x.wf B := by
  obtain ⟨h1, m', h2⟩ := fits_agg pcs30 cel30 h
  obtain ⟨a0, a1, a2, a3, a4, a5, rfl⟩ := len6 h1
  obtain ⟨n0, e0, w0⟩ := fits_Net (h2 (0, 25) (by simp))
  obtain ⟨y1, e1, w1, _, z1⟩ := fits_slice Tryz.underlying26 (h2 (2, 26) (by simp))
  obtain ⟨n1, rfl, u1⟩ := row_map (f := eTyp) fun y hy => fit_Typ (z1 y hy)
  obtain ⟨y2, e2, w2, _, z2⟩ := fits_slice Tryz.underlying27 (h2 (3, 27) (by simp))
  obtain ⟨n2, rfl, u2⟩ := row_map (f := eOrd) fun y hy => fit_Ord (z2 y hy)
  obtain ⟨y3, e3, w3, _, z3⟩ := fits_slice Tryz.underlying28 (h2 (4, 28) (by simp))
  obtain ⟨n3, rfl, u3⟩ := row_map (f := eP) fun y hy => fit_P (z3 y hy)
  obtain ⟨y4, e4, w4, _, z4⟩ := fits_slice Tryz.underlying28 (h2 (5, 28) (by simp))
  obtain ⟨n4, rfl, u4⟩ := row_map (f := eP) fun y hy => fit_P (z4 y hy)
  simp [cel28, cel27, cel26, cel25, cNet] at e0 e1 e2 e3 e4
  obtain ⟨rfl, rfl⟩ := e0; subst e1; subst e2; subst e3; subst e4
  exact ⟨⟨n0, false, n1, false, n2, false, n3, false, n4⟩, rfl, w0, by simpa using w1, u1, by simpa using w2, u2, by simpa using w3, u3, by simpa using w4, u4⟩
theorem fit_Inst {B v} (h : FitV Tryz.prog B 30 v) : ∃ x : Inst, v = eInst x ∧ x.wf B := by
  obtain ⟨k, cs, h, e⟩ := h.out
  obtain ⟨x, rfl, hw⟩ := fits_Inst h
  exact ⟨x, e.trans (by rw [mkEl, if_pos (pcs_tagg pcs30)]; rfl), hw⟩
structure Vis where
  order : Int
  drp : Bool
  deriving Inhabited
def cVis (x : Vis) : List PV := [.int .i64 x.order, .bool x.drp]
def eVis (x : Vis) : PV := .agg [.int .i64 x.order, .bool x.drp]
@[go_sem] theorem eVis_eq (x : Vis) : eVis x = .agg [.int .i64 x.order, .bool x.drp] := Eq.trans rfl rfl
@[go_sem] theorem allS_eVis (l : List Vis) : allS 2 (l.map eVis) = true := allS_map (f := eVis) (S := 2) (fun _ => rfl) l
@[go_sem] theorem okE_eVis (l : List Vis) : okE 2 (l.map eVis) = true := okE_map fun _ => rfl
def Vis.wf (B : Nat) (x : Vis) : Prop := I64 x.order
theorem fits_Vis {B m cs} (h : fits Tryz.prog B m 81 cs) : ∃ x : Vis, cs = cVis x ∧ x.wf B := by
  obtain ⟨h1, m', h2⟩ := fits_agg pcs81 cel81 h
  obtain ⟨a0, a1, rfl⟩ := len2 h1
  obtain ⟨n0, e0, w0⟩ := fits_int Tryz.underlying3 (h2 (0, 3) (by simp))
  obtain ⟨n1, e1⟩ := fits_bool Tryz.underlying4 (h2 (1, 4) (by simp))
  simp [cel4, cel3] at e0 e1
  subst e0; subst e1
  exact ⟨⟨n0, n1⟩, rfl, i64_wf w0⟩
theorem fit_Vis {B v} (h : FitV Tryz.prog B 81 v) : ∃ x : Vis, v = eVis x ∧ x.wf B := by
  obtain ⟨k, cs, h, e⟩ := h.out
  obtain ⟨x, rfl, hw⟩ := fits_Vis h
  exact ⟨x, e.trans (by rw [mkEl, if_pos (pcs_tagg pcs81)]; rfl), hw⟩
structure Rte where
  typ : Int
  start : Int
  rests_c : Bool
  rests : List (Bool)
  visits_c : Bool
  visits : List (Vis)
  deriving Inhabited
def cRte (x : Rte) : List PV := [.int .i64 x.typ, .int .i64 x.start, .list x.rests_c (x.rests.map eB), .list x.visits_c (x.visits.map eVis)]
def eRte (x : Rte) : PV := .agg [.int .i64 x.typ, .int .i64 x.start, .list x.rests_c (x.rests.map eB), .list x.visits_c (x.visits.map eVis)]
@[go_sem] theorem eRte_eq (x : Rte) : eRte x = .agg [.int .i64 x.typ, .int .i64 x.start, .list x.rests_c (x.rests.map eB), .list x.visits_c (x.visits.map eVis)] := Eq.trans rfl rfl
@[go_sem] theorem allS_eRte (l : List Rte) : allS 4 (l.map eRte) = true := allS_map (f := eRte) (S := 4) (fun _ => rfl) l
@[go_sem] theorem okE_eRte (l : List Rte) : okE 4 (l.map eRte) = true := okE_map fun _ => rfl
def Rte.wf (B : Nat) (x : Rte) : Prop := I64 x.typ ∧ I64 x.start ∧ x.rests.length ≤ B ∧ (∀ b ∈ x.rests, True) ∧ x.visits.length ≤ B ∧ (∀ y ∈ x.visits, Vis.wf B y)
theorem fits_Rte {B m cs} (h : fits Tryz.prog B m 35 cs) : ∃ x : Rte, cs = cRte x ∧ x.wf B := by
  obtain ⟨h1, m', h2⟩ := fits_agg pcs35 cel35 h
  obtain ⟨a0, a1, a2, a3, rfl⟩ := len4 h1
  obtain ⟨n0, e0, w0⟩ := fits_int Tryz.underlying3 (h2 (0, 3) (by simp))
  obtain ⟨n1, e1, w1⟩ := fits_int Tryz.underlying3 (h2 (1, 3) (by simp))
  obtain ⟨y2, e2, w2, _, z2⟩ := fits_slice Tryz.underlying32 (h2 (2, 32) (by simp))
  obtain ⟨n2, rfl, u2⟩ := fit_bools z2
  obtain ⟨y3, e3, w3, _, z3⟩ := fits_slice Tryz.underlying33 (h2 (3, 33) (by simp))
  obtain ⟨n3, rfl, u3⟩ := row_map (f := eVis) fun y hy => fit_Vis (z3 y hy)
  simp [cel33, cel32, cel3] at e0 e1 e2 e3
  subst e0; subst e1; subst e2; subst e3
  exact ⟨⟨n0, n1, false, n2, false, n3⟩, rfl, i64_wf w0, i64_wf w1, by simpa using w2, u2, by simpa using w3, u3⟩
theorem fit_Rte {B v} (h : FitV Tryz.prog B 35 v) : ∃ x : Rte, v = eRte x ∧ x.wf B := by
  obtain ⟨k, cs, h, e⟩ := h.out
  obtain ⟨x, rfl, hw⟩ := fits_Rte h
  exact ⟨x, e.trans (by rw [mkEl, if_pos (pcs_tagg pcs35)]; rfl), hw⟩
structure Tim where
  arr : Int
  beg : Int
  dep : Int
  rest : Bool
  deriving Inhabited
def eTim (x : Tim) : PV := .agg [.int .i64 x.arr, .int .i64 x.beg, .int .i64 x.dep, .bool x.rest]
@[go_sem] theorem eTim_eq (x : Tim) : eTim x = .agg [.int .i64 x.arr, .int .i64 x.beg, .int .i64 x.dep, .bool x.rest] := Eq.trans rfl rfl
@[go_sem] theorem allS_eTim (l : List Tim) : allS 4 (l.map eTim) = true := allS_map (f := eTim) (S := 4) (fun _ => rfl) l
@[go_sem] theorem okE_eTim (l : List Tim) : okE 4 (l.map eTim) = true := okE_map fun _ => rfl
structure She where
  rest : Bool
  dep : Int
  times_c : Bool
  times : List (Tim)
  fin : Int
  miles : Int
  deriving Inhabited
def eShe (x : She) : PV := .agg [.bool x.rest, .int .i64 x.dep, .list x.times_c (x.times.map eTim), .int .i64 x.fin, .int .i64 x.miles]
@[go_sem] theorem eShe_eq (x : She) : eShe x = .agg [.bool x.rest, .int .i64 x.dep, .list x.times_c (x.times.map eTim), .int .i64 x.fin, .int .i64 x.miles] := Eq.trans rfl rfl
@[go_sem] theorem allS_eShe (l : List She) : allS 5 (l.map eShe) = true := allS_map (f := eShe) (S := 5) (fun _ => rfl) l
@[go_sem] theorem okE_eShe (l : List She) : okE 5 (l.map eShe) = true := okE_map fun _ => rfl
structure Sco where
  cost : Int
  moved : Int
  other : Int
  work : Int
  deriving Inhabited
def eSco (x : Sco) : PV := .agg [.int .i64 x.cost, .int .i64 x.moved, .int .i64 x.other, .int .i64 x.work]
@[go_sem] theorem eSco_eq (x : Sco) : eSco x = .agg [.int .i64 x.cost, .int .i64 x.moved, .int .i64 x.other, .int .i64 x.work] := Eq.trans rfl rfl
@[go_sem] theorem allS_eSco (l : List Sco) : allS 4 (l.map eSco) = true := allS_map (f := eSco) (S := 4) (fun _ => rfl) l
@[go_sem] theorem okE_eSco (l : List Sco) : okE 4 (l.map eSco) = true := okE_map fun _ => rfl
structure Itm where
  kind : Int
  a : Int
  deriving Inhabited
def cItm (x : Itm) : List PV := [.int .i64 x.kind, .int .i64 x.a]
def eItm (x : Itm) : PV := .agg [.int .i64 x.kind, .int .i64 x.a]
@[go_sem] theorem eItm_eq (x : Itm) : eItm x = .agg [.int .i64 x.kind, .int .i64 x.a] := Eq.trans rfl rfl
@[go_sem] theorem allS_eItm (l : List Itm) : allS 2 (l.map eItm) = true := allS_map (f := eItm) (S := 2) (fun _ => rfl) l
@[go_sem] theorem okE_eItm (l : List Itm) : okE 2 (l.map eItm) = true := okE_map fun _ => rfl
def Itm.wf (B : Nat) (x : Itm) : Prop := I64 x.kind ∧ I64 x.a
theorem fits_Itm {B m cs} (h : fits Tryz.prog B m 55 cs) : ∃ x : Itm, cs = cItm x ∧ x.wf B := by
  obtain ⟨h1, m', h2⟩ := fits_agg pcs55 cel55 h
  obtain ⟨a0, a1, rfl⟩ := len2 h1
  obtain ⟨n0, e0, w0⟩ := fits_int Tryz.underlying3 (h2 (0, 3) (by simp))
  obtain ⟨n1, e1, w1⟩ := fits_int Tryz.underlying3 (h2 (1, 3) (by simp))
  simp [cel3] at e0 e1
  subst e0; subst e1
  exact ⟨⟨n0, n1⟩, rfl, i64_wf w0, i64_wf w1⟩
theorem fit_Itm {B v} (h : FitV Tryz.prog B 55 v) : ∃ x : Itm, v = eItm x ∧ x.wf B := by
  obtain ⟨k, cs, h, e⟩ := h.out
  obtain ⟨x, rfl, hw⟩ := fits_Itm h
  exact ⟨x, e.trans (by rw [mkEl, if_pos (pcs_tagg pcs55)]; rfl), hw⟩
end Go.Proofs.YtccjopdlbolnhaaGreat.K
set_option linter.unusedVariables false
set_option linter.unusedSimpArgs false
namespace Go.Proofs.YtccjopdlbolnhaaGreat.K
open Go Go.AM Go.Proofs
theorem own : ownKnob Tryz.prog.godebug = none := by kernel_rfl
theorem laidOut : laidOutB Tryz.prog = true := by kernel_rfl
theorem fit_Itms {B x} (h : FitV Tryz.prog B 31 x) : ∃ l : List Itm, x = .list false (l.map eItm) ∧ l.length ≤ B ∧ ∀ v ∈ l, v.wf B := by
  obtain ⟨xs, rfl, h1, _, h2⟩ := fit_slice Tryz.underlying31 h
  obtain ⟨l, rfl, h3⟩ := row_map (f := eItm) fun y hy => fit_Itm (h2 y hy)
  exact ⟨l, rfl, by simpa using h1, h3⟩
end Go.Proofs.YtccjopdlbolnhaaGreat.K
set_option linter.unusedVariables false
set_option linter.unusedSimpArgs false
namespace Go.Proofs.YtccjopdlbolnhaaGreat.K
open Go Go.AM Go.Proofs
/-- a fault -/
abbrev Flt := Int × List UInt8
def eF (f : Flt) : PV := .agg [.int .i64 f.1, .str f.2]
@[go_sem] theorem eF_eq (f : Flt) : eF f = .agg [.int .i64 f.1, .str f.2] := Eq.trans rfl rfl
@[go_sem] theorem okE_eF (l : List Flt) : okE 2 (l.map eF) = true := okE_map fun _ => rfl
@[go_sem] theorem allS_eF (l : List Flt) : allS 2 (l.map eF) = true := allS_map (f := eF) (S := 2) (fun _ => rfl) l
def dec (n : Nat) : List UInt8 := if h : n < 10 then [UInt8.ofNat (48 + n)] else dec (n / 10) ++ [UInt8.ofNat (48 + n % 10)]
termination_by n
decreasing_by omega
theorem dec_len : ∀ (k n : Nat), n < k → (dec n).length ≤ n + 1 := by
  intro k
  induction k with
  | zero => intro n h; omega
  | succ k ih =>
    intro n h
    rw [dec]
    split
    · simp
    · have := ih (n / 10) (by omega)
      simp
      omega
theorem dec_digits : ∀ (d n : Nat), n < 10 ^ (d + 1) → (dec n).length ≤ d + 1 := by
  intro d
  induction d with
  | zero => intro n h; rw [dec, dif_pos (by omega)]; simp
  | succ d ih =>
    intro n h
    rw [dec]
    split
    · simp
    · have := ih (n / 10) (by rw [Nat.div_lt_iff_lt_mul (by omega)]; rw [Nat.pow_succ] at h; exact h)
      simp
      omega
def decI (n : Int) : List UInt8 := if n < 0 then 45 :: dec n.natAbs else dec n.natAbs
theorem decI_len (n : Int) (h : I64 n) : (decI n).length ≤ 20 := by
  have h1 : n.natAbs < 10 ^ (18 + 1) := by omega
  have := dec_digits 18 n.natAbs h1
  unfold decI
  split <;> simp <;> omega
/-- a row that is empty just if C holds, of at most b elements -/
structure FR {α : Type} (p : α → Prop) (C : Prop) (b : Nat) (l : List α) : Prop where
  len : l.length ≤ b
  emp : l = [] ↔ C
  all : ∀ x ∈ l, p x
theorem FR.nil {α : Type} {p : α → Prop} {C : Prop} {b : Nat} (h : C) : FR p C b [] := ⟨by simp, by simp [h], by simp⟩
theorem FR.no {α : Type} {p : α → Prop} {C c : Prop} {b : Nat} {l : List α} (h : FR p C b l) (hc : c) : FR p (C ∧ c) (b + 1) l := ⟨by have := h.len; omega, by rw [h.emp]; simp [hc], h.all⟩
theorem FR.yes {α : Type} {p : α → Prop} {C c : Prop} {b : Nat} {l : List α} {x : α} (h : FR p C b l) (hc : ¬ c) (hx : p x) : FR p (C ∧ c) (b + 1) (l ++ [x]) :=
  ⟨by have := h.len; simp; omega, by simp [hc], fun y hy => by
    rcases List.mem_append.1 hy with hy | hy
    · exact h.all y hy
    · simp at hy; subst hy; exact hx⟩
theorem FR.app {α : Type} {p : α → Prop} {C D : Prop} {b d : Nat} {l m : List α} (h : FR p C b l) (k : FR p D d m) : FR p (C ∧ D) (b + d) (l ++ m) :=
  ⟨by have := h.len; have := k.len; simp; omega, by rw [List.append_eq_nil_iff, h.emp, k.emp], fun y hy => by
    rcases List.mem_append.1 hy with hy | hy
    · exact h.all y hy
    · exact k.all y hy⟩
theorem FR.to {α : Type} {p : α → Prop} {C D : Prop} {b d : Nat} {l : List α} (h : FR p C b l) (hb : b ≤ d) (hc : C ↔ D) : FR p D d l := ⟨Nat.le_trans h.len hb, h.emp.trans hc, h.all⟩
theorem upto_iff {p : Nat → Prop} {k : Nat} : (∀ j, j < k + 1 → p j) ↔ ((∀ j, j < k → p j) ∧ p k) :=
  ⟨fun h => ⟨fun j hj => h j (by omega), h k (by omega)⟩, fun h j hj => by
    rcases Nat.lt_or_ge j k with h1 | h1
    · exact h.1 j h1
    · have : j = k := by omega
      rw [this]; exact h.2⟩
def isDigit (c : UInt8) : Bool := decide (48 ≤ c.toNat ∧ c.toNat ≤ 57)
def isLetter (c : UInt8) : Bool := decide (97 ≤ c.toNat ∧ c.toNat ≤ 122) || decide (65 ≤ c.toNat ∧ c.toNat ≤ 90) || decide (c.toNat = 95)
def nameOk (s : List UInt8) : Bool := decide (1 ≤ s.length) && decide (s.length ≤ 16) && !isDigit (nth s 0) && s.all fun c => isLetter c || isDigit c
def rng (n lo hi : Int) : Bool := decide (lo ≤ n ∧ n ≤ hi)
def tick (n : Int) : Bool := rng n 0 4096
/-- a travel function -/
def ptOk (l : List Pt) (i : Nat) : Prop := (0 ≤ (nth l i).t ∧ (nth l i).t ≤ 4096 ∧ (nth l i).t ≤ (nth l i).a ∧ (nth l i).a ≤ (nth l i).t + 4096) ∧ (0 < i → (nth l (i - 1)).t < (nth l i).t ∧ (nth l (i - 1)).a ≤ (nth l i).a)
def ptsOk (l : List Pt) : Prop := (1 ≤ l.length ∧ l.length ≤ 16) ∧ ∀ i, i < l.length → ptOk l i
def slowOk (l : List Pt) (i : Nat) : Prop := tick (nth l i).t = true ∧ tick (nth l i).a = true ∧ (0 < i → (nth l (i - 1)).t < (nth l i).t)
/-- an arc -/
def arcOk (n : Net) (i : Nat) : Prop :=
  ((((((0 ≤ (nth n.arcs i).src ∧ (nth n.arcs i).src < n.places.length ∧ 0 ≤ (nth n.arcs i).dst ∧ (nth n.arcs i).dst < n.places.length) ∧
  (0 ≤ (nth n.arcs i).prof ∧ (nth n.arcs i).prof ≤ 7 ∧ 0 ≤ (nth n.arcs i).miles ∧ (nth n.arcs i).miles ≤ 10000 ∧ (nth n.arcs i).src ≠ (nth n.arcs i).dst)) ∧
  (∀ k, k < i → ¬ ((nth n.arcs i).src = (nth n.arcs k).src ∧ (nth n.arcs i).dst = (nth n.arcs k).dst ∧ (nth n.arcs i).prof = (nth n.arcs k).prof))) ∧
  ptsOk (nth n.arcs i).travel) ∧ (nth n.arcs i).slow.length ≤ 16) ∧ ∀ k, k < (nth n.arcs i).slow.length → slowOk (nth n.arcs i).slow k)
def plOk (n : Net) (i : Nat) : Prop := nameOk (nth n.places i) = true ∧ ∀ k, k < i → nth n.places k ≠ nth n.places i
def placesOk (n : Net) : Prop := n.places.length ≤ 24 ∧ ∀ i, i < n.places.length → plOk n i
def netOk (n : Net) : Prop := (placesOk n ∧ n.arcs.length ≤ 1024) ∧ ∀ i, i < n.arcs.length → arcOk n i
end Go.Proofs.YtccjopdlbolnhaaGreat.K
set_option linter.unusedVariables false
set_option linter.unusedSimpArgs false
namespace Go.Proofs.YtccjopdlbolnhaaGreat.K
open Go Go.AM Go.Proofs
set_option maxRecDepth 8000
set_option maxHeartbeats 4000000
theorem digit_c (c : UInt8) : ACalls Tryz.prog 87 [.p (.int .u8 (c.toNat : Nat))] [] fun x H' => x = .p (.bool (isDigit c)) ∧ H' = [] := by
  refine acalls_pure (fn := Tryz.f87) Tryz.func87 rfl isF87 ?_
  simp (disch := omega) only [Tryz.f87, go_sem, seval, reduceCtorEq, ↓reduceIte]
  refine aguard_t (fun h => ?_) (fun h => ?_) <;> (try simp only [decide_eq_true_eq, decide_eq_false_iff_not] at h) <;> simp (disch := omega) only [Sh.out h, go_sem, seval, reduceCtorEq, ↓reduceIte]
  all_goals (simp [isDigit]; first | done | omega | (rw [Bool.eq_iff_iff]; simp; omega))
theorem letter_c (c : UInt8) : ACalls Tryz.prog 88 [.p (.int .u8 (c.toNat : Nat))] [] fun x H' => x = .p (.bool (isLetter c)) ∧ H' = [] := by
  refine acalls_pure (fn := Tryz.f88) Tryz.func88 rfl isF88 ?_
  simp (disch := omega) only [Tryz.f88, go_sem, seval, reduceCtorEq, ↓reduceIte]
  repeat' (first | (refine aguard_t (fun hq => ?_) (fun hq => ?_) <;> (try simp only [decide_eq_true_eq, decide_eq_false_iff_not, Classical.not_not] at hq) <;> simp (disch := omega) only [Sh.out hq, go_sem, seval, reduceCtorEq, ↓reduceIte]) | (refine aguard_f (fun hq => ?_) (fun hq => ?_) <;> (try simp only [decide_eq_true_eq, decide_eq_false_iff_not, Classical.not_not] at hq) <;> simp (disch := omega) only [Sh.out hq, go_sem, seval, reduceCtorEq, ↓reduceIte]) | (refine acond_b (fun hq => ?_) (fun hq => ?_) <;> (try simp only [decide_eq_true_eq, decide_eq_false_iff_not, Classical.not_not] at hq) <;> simp (disch := omega) only [Sh.out hq, go_sem, seval, reduceCtorEq, ↓reduceIte]))
  all_goals (simp [isLetter]; first | done | omega | (rw [Bool.eq_iff_iff]; simp; omega))
theorem name_c (s : List UInt8) (hs : s.length ≤ 1048576) : ACalls Tryz.prog 61 [.p (.str s)] [] fun x H' => x = .p (.bool (nameOk s)) ∧ H' = [] := by
  refine acalls_pure (fn := Tryz.f61) Tryz.func61 rfl isF61 ?_
  simp (disch := omega) only [Tryz.f61, go_sem, seval, reduceCtorEq, ↓reduceIte]
  refine aguard_f (fun h => ?_) (fun h => ?_) <;> (try simp only [decide_eq_true_eq, decide_eq_false_iff_not] at h) <;> simp (disch := omega) only [Sh.out h, go_sem, seval, reduceCtorEq, ↓reduceIte]
  · have : ¬ 1 ≤ s.length := by omega
    simp [nameOk, this]
  · refine aguard_f (fun h2 => ?_) (fun h2 => ?_) <;> (try simp only [decide_eq_true_eq, decide_eq_false_iff_not] at h2) <;> simp (disch := omega) only [Sh.out h2, go_sem, seval, reduceCtorEq, ↓reduceIte]
    · have : ¬ s.length ≤ 16 := by omega
      simp [nameOk, this]
    · have g1 : 1 ≤ s.length := by omega
      have g2 : s.length ≤ 16 := by omega
      refine (digit_c (nth s 0)).use ?_
      simp (disch := omega) only [go_sem, seval, reduceCtorEq, ↓reduceIte]
      refine acond_b (fun h3 => ?_) (fun h3 => ?_) <;> (try simp only [decide_eq_true_eq, decide_eq_false_iff_not] at h3) <;> simp (disch := omega) only [Sh.out h3, go_sem, seval, reduceCtorEq, ↓reduceIte]
      · simp [nameOk, h3]
      · refine awp_for [0] (fun k : Nat => [(3, .p (.int .i64 k))]) (fun _ => []) (fun k => k ≤ s.length ∧ ∀ j, j < k → (isLetter (nth s j) || isDigit (nth s j)) = true) (fun k => s.length - k) 0 (by simp) (Weak.mk ?_) ?_
        · simp (disch := omega) only [go_sem, seval, reduceCtorEq, ↓reduceIte]
        · rintro k ⟨hk, hno⟩
          simp (disch := omega) only [go_sem, seval, reduceCtorEq, ↓reduceIte]
          have hall : ∀ j, j < s.length → (isLetter (nth s j) || isDigit (nth s j)) = false → nameOk s = false := fun j hj e => by
            have : s.all (fun c => isLetter c || isDigit c) = false := by
              rw [List.all_eq_false]
              exact ⟨nth s j, by rw [nth_get hj]; exact List.getElem_mem _, by rw [e]; simp⟩
            simp [nameOk, this]
          refine acond_b (fun h4 => ?_) (fun h4 => ?_) <;> (try simp only [decide_eq_true_eq, decide_eq_false_iff_not] at h4) <;> simp (disch := omega) only [Sh.out h4, go_sem, seval, reduceCtorEq, ↓reduceIte]
          · have hk2 : k < s.length := by omega
            refine (letter_c (nth s k)).use ?_
            simp (disch := omega) only [go_sem, seval, reduceCtorEq, ↓reduceIte]
            refine aguard_t (fun h5 => ?_) (fun h5 => ?_) <;> (try simp only [decide_eq_true_eq, decide_eq_false_iff_not] at h5) <;> simp (disch := omega) only [Sh.out h5, go_sem, seval, reduceCtorEq, ↓reduceIte]
            · refine (digit_c (nth s k)).use ?_
              simp (disch := omega) only [go_sem, seval, reduceCtorEq, ↓reduceIte]
              refine acond_b (fun h6 => ?_) (fun h6 => ?_) <;> (try simp only [decide_eq_true_eq, decide_eq_false_iff_not] at h6) <;> simp (disch := omega) only [Sh.out h6, go_sem, seval, reduceCtorEq, ↓reduceIte]
              · simp only [Bool.not_eq_true'] at h5 h6
                rw [hall k hk2 (by rw [h5, h6]; rfl)]
              · simp only [Bool.not_eq_false'] at h6
                exact ⟨k + 1, ⟨by omega, upto_iff.2 ⟨hno, by simp [h6]⟩⟩, by omega, Weak.mk (by simp (disch := omega) only [go_sem, seval, reduceCtorEq, ↓reduceIte])⟩
            · simp only [Bool.not_eq_false'] at h5
              exact ⟨k + 1, ⟨by omega, upto_iff.2 ⟨hno, by simp [h5]⟩⟩, by omega, Weak.mk (by simp (disch := omega) only [go_sem, seval, reduceCtorEq, ↓reduceIte])⟩
          · have : s.all (fun c => isLetter c || isDigit c) = true := by
              rw [List.all_eq_true]
              intro c hc
              obtain ⟨j, hj, rfl⟩ := List.mem_iff_getElem.1 hc
              rw [← nth_get hj]; exact hno j (by omega)
            simp [nameOk, g1, g2, h3, this]
theorem dec01_c (n : Int) (hn : I64 n) : ACalls Tryz.prog 42 [.p (.int .i64 n)] [] fun x H' => x = .p (.str (decI n)) ∧ H' = [] := by
  refine acalls_pure (fn := Tryz.f42) Tryz.func42 rfl isF42 ?_
  simp (disch := omega) only [Tryz.f42, go_sem, seval, reduceCtorEq, ↓reduceIte]
  have h19 : n.natAbs < 10 ^ (18 + 1) := by omega
  have hdl := dec_digits 18 n.natAbs h19
  refine awp_forC [7] [0] (fun q : Int × List UInt8 × Bool => [(3, .p (.str q.2.1)), (4, .p (.int .i64 q.1)), (5, .p (.bool q.2.2))]) (fun _ => [])
    (fun q => I64 q.1 ∧ (q.2.2 = true → dec q.1.natAbs ++ q.2.1 = dec n.natAbs) ∧ (q.2.2 = false → q.2.1 = dec n.natAbs)) (fun q => if q.2.2 then q.1.natAbs + 1 else 0) (n, [], true) (by simp; omega) (Weak.mk ?_) ?_
  · simp (disch := omega) only [go_sem, seval, reduceCtorEq, ↓reduceIte]
  · rintro ⟨m, s, again⟩ ⟨hm, h1, h2⟩
    simp only at hm h1 h2
    simp (disch := omega) only [go_sem, seval, reduceCtorEq, ↓reduceIte]
    cases again with
    | false =>
      simp (disch := omega) only [go_sem, seval, reduceCtorEq, ↓reduceIte]
      have h2 := h2 rfl
      have hl2 : ([45] : List UInt8).length + (dec n.natAbs).length ≤ 9223372036854775807 := by simp; omega
      refine acond_b (fun h3 => ?_) (fun h3 => ?_) <;> (try simp only [decide_eq_true_eq, decide_eq_false_iff_not] at h3) <;> simp (disch := omega) only [Sh.out h3, go_sem, seval, reduceCtorEq, ↓reduceIte]
      · simp (disch := omega) only [decI, h2, h3, sbin_add hl2, go_sem, seval, reduceCtorEq, ↓reduceIte]
      · simp (disch := omega) only [decI, h2, h3, go_sem, seval, reduceCtorEq, ↓reduceIte]
    | true =>
      have h1 := h1 rfl
      have hls : (dec m.natAbs).length + s.length = (dec n.natAbs).length := by rw [← h1]; simp
      simp (disch := omega) only [go_sem, seval, reduceCtorEq, ↓reduceIte]
      have e1 : (m.tmod 10).natAbs = m.natAbs % 10 := by rw [Int.natAbs_tmod]; rfl
      have e2 : (m.tdiv 10).natAbs = m.natAbs / 10 := by rw [Int.natAbs_tdiv]; rfl
      have e3 : m.tmod 10 < 10 ∧ -10 < m.tmod 10 := ⟨Int.tmod_lt_of_pos _ (by decide), by omega⟩
      refine awp_join [0, 3, 4] (fun _ : Unit => [(6, .p (.int .i64 ((m.natAbs % 10 : Nat) : Int)))]) (fun _ => []) (fun _ => True) ?_ ?_
      · simp (disch := omega) only [go_sem, seval, reduceCtorEq, ↓reduceIte]
        refine acond_b (fun h3 => ?_) (fun h3 => ?_) <;> (try simp only [decide_eq_true_eq, decide_eq_false_iff_not] at h3) <;> simp (disch := omega) only [Sh.out h3, go_sem, seval, reduceCtorEq, ↓reduceIte]
        · exact ⟨(), Weak.mk (by simp (disch := omega) only [go_sem, seval, reduceCtorEq, ↓reduceIte]; simp; omega)⟩
        · exact ⟨(), Weak.mk (by simp (disch := omega) only [go_sem, seval, reduceCtorEq, ↓reduceIte]; simp; omega)⟩
      · intro _ _
        refine awp_sound [] _ _ _ _ ?_
        simp (disch := first | omega | (simp only [List.length_cons, List.length_nil, List.length_append, List.length_map, List.length_take, List.length_drop] <;> omega)) only [go_sem, seval, reduceCtorEq, ↓reduceIte]
        have e4 : (48 + ((m.natAbs % 10 : Nat) : Int)).toNat = 48 + m.natAbs % 10 := by omega
        refine ⟨(m.tdiv 10, UInt8.ofNat (48 + m.natAbs % 10) :: s, decide (m.tdiv 10 ≠ 0)), ⟨?_, ?_, ?_⟩, ?_, Weak.mk ?_⟩
        · simp only; omega
        · simp only [decide_eq_true_eq]
          intro hne
          have h10 : ¬ m.natAbs < 10 := by omega
          rw [e2, ← h1, dec.eq_def m.natAbs, dif_neg h10]
          simp
        · simp only [decide_eq_false_iff_not, Classical.not_not]
          intro hz
          have h10 : m.natAbs < 10 := by omega
          rw [← h1, dec.eq_def m.natAbs, dif_pos h10, Nat.mod_eq_of_lt h10]
          simp
        · simp only [if_true]
          split
          · rename_i hne
            simp only [decide_eq_true_eq] at hne
            omega
          · omega
        · simp (disch := omega) only [e4, go_sem, seval, reduceCtorEq, ↓reduceIte]
end Go.Proofs.YtccjopdlbolnhaaGreat.K
set_option linter.unusedVariables false
set_option linter.unusedSimpArgs false
namespace Go.Proofs.YtccjopdlbolnhaaGreat.K
open Go Go.AM Go.Proofs
set_option maxRecDepth 8000
set_option maxHeartbeats 4000000
/-- a fault's path is short -/
def pF (k : Nat) (f : Flt) : Prop := f.2.length ≤ k
theorem ck07_c (l : List Pt) (c : Bool) (hl : l.length ≤ 1048576) : ACalls Tryz.prog 62 [.p (.list c (l.map ePt))] [] fun x H' => ∃ m : List Flt, FR (pF 20) (ptsOk l) (2 * l.length + 1) m ∧ x = .sl 0 0 m.length m.length ∧ H' = [.elems 2 (m.map eF)] := by
  refine acalls_freshE [2] (fn := Tryz.f62) Tryz.func62 rfl isF62 ?_
  simp (disch := omega) only [Tryz.f62, go_sem, seval, reduceCtorEq, ↓reduceIte]
  refine awp_weak (Weak.ofNil 3 2 (by simp (disch := omega) only [go_sem, seval, reduceCtorEq, ↓reduceIte]) (by simp) (Weak.refl _ _ _)) ?_
  refine awp_join [0] (fun m : List Flt => [(3, .sl 0 0 m.length m.length)]) (fun m => [.elems 2 (m.map eF)]) (fun m => FR (pF 20) (1 ≤ l.length ∧ l.length ≤ 16) 1 m) ?_ ?_
  · simp (disch := omega) only [go_sem, seval, reduceCtorEq, ↓reduceIte]
    repeat' (first | (refine aguard_t (fun hq => ?_) (fun hq => ?_) <;> (try simp only [decide_eq_true_eq, decide_eq_false_iff_not, Classical.not_not] at hq) <;> simp (disch := omega) only [Sh.out hq, go_sem, seval, reduceCtorEq, ↓reduceIte]) | (refine aguard_f (fun hq => ?_) (fun hq => ?_) <;> (try simp only [decide_eq_true_eq, decide_eq_false_iff_not, Classical.not_not] at hq) <;> simp (disch := omega) only [Sh.out hq, go_sem, seval, reduceCtorEq, ↓reduceIte]) | (refine acond_b (fun hq => ?_) (fun hq => ?_) <;> (try simp only [decide_eq_true_eq, decide_eq_false_iff_not, Classical.not_not] at hq) <;> simp (disch := omega) only [Sh.out hq, go_sem, seval, reduceCtorEq, ↓reduceIte]))
    · exact ⟨[(4, [])], ⟨by simp, by simp; omega, by simp [pF]⟩, Weak.mk (by simp (disch := omega) only [go_sem, seval, reduceCtorEq, ↓reduceIte])⟩
    · exact ⟨[(4, [])], ⟨by simp, by simp; omega, by simp [pF]⟩, Weak.mk (by simp (disch := omega) only [go_sem, seval, reduceCtorEq, ↓reduceIte])⟩
    · exact ⟨[], FR.nil (by omega), Weak.mk (by simp (disch := omega) only [go_sem, seval, reduceCtorEq, ↓reduceIte])⟩
  · intro m hm
    refine awp_sound [] _ _ _ _ ?_
    simp (disch := omega) only [go_sem, seval, reduceCtorEq, ↓reduceIte]
    refine awp_forC [8] [0] (fun q : Nat × List Flt => [(3, .sl 0 0 q.2.length q.2.length), (4, .p (.int .i64 q.1))]) (fun q => [.elems 2 (q.2.map eF)]) (fun q => q.1 ≤ l.length ∧ FR (pF 20) ((1 ≤ l.length ∧ l.length ≤ 16) ∧ ∀ j, j < q.1 → ptOk l j) (2 * q.1 + 1) q.2) (fun q => l.length - q.1) (0, m) ⟨by simp, hm.to (by simp) (by simp)⟩ (Weak.mk ?_) ?_
    · simp (disch := omega) only [go_sem, seval, reduceCtorEq, ↓reduceIte]
    · rintro ⟨k, m⟩ ⟨hk, hm⟩
      simp only at hk hm
      have hml := hm.len
      simp (disch := omega) only [go_sem, seval, reduceCtorEq, ↓reduceIte]
      refine acond_b (fun h => ?_) (fun h => ?_) <;> (try simp only [decide_eq_true_eq, decide_eq_false_iff_not] at h) <;> simp (disch := omega) only [Sh.out h, go_sem, seval, reduceCtorEq, ↓reduceIte]
      · have hk2 : k < l.length := by omega
        refine awp_join [0, 4, 5] (fun m : List Flt => [(3, .sl 0 0 m.length m.length)]) (fun m => [.elems 2 (m.map eF), .cells [.p (.int .i64 (nth l k).t), .p (.int .i64 (nth l k).a)]])
          (fun m => FR (pF 20) (((1 ≤ l.length ∧ l.length ≤ 16) ∧ ∀ j, j < k → ptOk l j) ∧ (0 ≤ (nth l k).t ∧ (nth l k).t ≤ 4096 ∧ (nth l k).t ≤ (nth l k).a ∧ (nth l k).a ≤ (nth l k).t + 4096)) (2 * k + 1 + 1) m) ?_ ?_
        · simp (disch := omega) only [go_sem, seval, reduceCtorEq, ↓reduceIte]
          have hI : I64 (k : Int) := by omega
          have hdl := decI_len k hI
          repeat' (first | (refine aguard_t (fun hq => ?_) (fun hq => ?_) <;> (try simp only [decide_eq_true_eq, decide_eq_false_iff_not, Classical.not_not] at hq) <;> simp (disch := omega) only [Sh.out hq, go_sem, seval, reduceCtorEq, ↓reduceIte]) | (refine aguard_f (fun hq => ?_) (fun hq => ?_) <;> (try simp only [decide_eq_true_eq, decide_eq_false_iff_not, Classical.not_not] at hq) <;> simp (disch := omega) only [Sh.out hq, go_sem, seval, reduceCtorEq, ↓reduceIte]) | (refine acond_b (fun hq => ?_) (fun hq => ?_) <;> (try simp only [decide_eq_true_eq, decide_eq_false_iff_not, Classical.not_not] at hq) <;> simp (disch := omega) only [Sh.out hq, go_sem, seval, reduceCtorEq, ↓reduceIte]))
          all_goals try exact ⟨m, hm.no (by omega), Weak.mk (by simp (disch := omega) only [go_sem, seval, reduceCtorEq, ↓reduceIte])⟩
          all_goals
            refine (dec01_c k hI).use ?_
            simp (disch := omega) only [go_sem, seval, reduceCtorEq, ↓reduceIte]
            exact ⟨m ++ [(2, decI k)], hm.yes (by omega) (by simp only [pF]; omega), Weak.mk (by simp (disch := omega) only [go_sem, seval, reduceCtorEq, ↓reduceIte])⟩
        · intro m hm
          have hml := hm.len
          refine awp_sound [] _ _ _ _ ?_
          simp (disch := omega) only [go_sem, seval, reduceCtorEq, ↓reduceIte]
          have hI : I64 (k : Int) := by omega
          have hdl := decI_len k hI
          refine awp_drawnA mixed (by kernel_rfl) (by kernel_rfl) ?_
          simp (disch := omega) only [go_sem, seval, reduceCtorEq, ↓reduceIte]
          repeat' (first | (refine aguard_t (fun hq => ?_) (fun hq => ?_) <;> (try simp only [decide_eq_true_eq, decide_eq_false_iff_not, Classical.not_not] at hq) <;> simp (disch := omega) only [Sh.out hq, go_sem, seval, reduceCtorEq, ↓reduceIte]) | (refine aguard_f (fun hq => ?_) (fun hq => ?_) <;> (try simp only [decide_eq_true_eq, decide_eq_false_iff_not, Classical.not_not] at hq) <;> simp (disch := omega) only [Sh.out hq, go_sem, seval, reduceCtorEq, ↓reduceIte]) | (refine acond_b (fun hq => ?_) (fun hq => ?_) <;> (try simp only [decide_eq_true_eq, decide_eq_false_iff_not, Classical.not_not] at hq) <;> simp (disch := omega) only [Sh.out hq, go_sem, seval, reduceCtorEq, ↓reduceIte]))
          all_goals try exact ⟨(k + 1, m), ⟨by simp only; omega, (hm.no (c := 0 < k → (nth l (k - 1)).t < (nth l k).t ∧ (nth l (k - 1)).a ≤ (nth l k).a) (by omega)).to (by simp only; omega) (by simp only [upto_iff, ptOk, and_assoc])⟩, by simp only; omega, Weak.mk (by simp (disch := omega) only [go_sem, seval, reduceCtorEq, ↓reduceIte])⟩
          all_goals
            refine (dec01_c k hI).use ?_
            simp (disch := omega) only [go_sem, seval, reduceCtorEq, ↓reduceIte]
            exact ⟨(k + 1, m ++ [(13, decI k)]), ⟨by simp only; omega, (hm.yes (c := 0 < k → (nth l (k - 1)).t < (nth l k).t ∧ (nth l (k - 1)).a ≤ (nth l k).a) (by omega) (by simp only [pF]; omega)).to (by simp only; omega) (by simp only [upto_iff, ptOk, and_assoc])⟩, by simp only; omega, Weak.mk (by simp (disch := omega) only [go_sem, seval, reduceCtorEq, ↓reduceIte])⟩
      · have hkn : k = l.length := by omega
        subst hkn
        exact ⟨m, hm.to (by omega) (by rw [ptsOk]), 0, by simp (disch := omega) only [go_sem, seval, reduceCtorEq, ↓reduceIte]⟩
end Go.Proofs.YtccjopdlbolnhaaGreat.K
set_option linter.unusedVariables false
set_option linter.unusedSimpArgs false
namespace Go.Proofs.YtccjopdlbolnhaaGreat.K
open Go Go.AM Go.Proofs
set_option maxRecDepth 8000
set_option maxHeartbeats 8000000
theorem pF.mono {j k : Nat} (h : j ≤ k) {f : Flt} (hf : pF j f) : pF k f := Nat.le_trans hf h
theorem FR.pmono {α : Type} {p q : α → Prop} {C : Prop} {b : Nat} {l : List α} (h : FR p C b l) (hp : ∀ x, p x → q x) : FR q C b l := ⟨h.len, h.emp, fun x hx => hp x (h.all x hx)⟩
theorem tick09_c (n : Int) : ACalls Tryz.prog 63 [.p (.int .i64 n)] [] fun x H' => x = .p (.bool (tick n)) ∧ H' = [] := by
  refine acalls_pure (fn := Tryz.f63) Tryz.func63 rfl isF63 ?_
  simp (disch := omega) only [Tryz.f63, go_sem, seval, reduceCtorEq, ↓reduceIte]
  repeat' (first | (refine aguard_t (fun hq => ?_) (fun hq => ?_) <;> (try simp only [decide_eq_true_eq, decide_eq_false_iff_not, Classical.not_not] at hq) <;> simp (disch := omega) only [Sh.out hq, go_sem, seval, reduceCtorEq, ↓reduceIte]) | (refine aguard_f (fun hq => ?_) (fun hq => ?_) <;> (try simp only [decide_eq_true_eq, decide_eq_false_iff_not, Classical.not_not] at hq) <;> simp (disch := omega) only [Sh.out hq, go_sem, seval, reduceCtorEq, ↓reduceIte]) | (refine acond_b (fun hq => ?_) (fun hq => ?_) <;> (try simp only [decide_eq_true_eq, decide_eq_false_iff_not, Classical.not_not] at hq) <;> simp (disch := omega) only [Sh.out hq, go_sem, seval, reduceCtorEq, ↓reduceIte]))
  all_goals (simp [tick, rng]; first | done | omega | (rw [Bool.eq_iff_iff]; simp; omega))
def netH (n : Net) : List AM.Obj := [.cells [.p (.list n.places_c (n.places.map eS)), .p (.list n.arcs_c (n.arcs.map eArc))]]
theorem ckPlaces_c (n : Net) (hp : n.places.length ≤ 1048576) (hs : ∀ s ∈ n.places, s.length ≤ 1048576) : ACalls Tryz.prog 38 [.p (eNet n)] [] fun x H' => ∃ m : List Flt, FR (pF 26) (placesOk n) (n.places.length + 1) m ∧ x = .sl 0 0 m.length m.length ∧ H' = [.elems 2 (m.map eF)] := by
  refine acalls_freshE [2] (fn := Tryz.f38) Tryz.func38 rfl isF38 ?_
  simp (disch := omega) only [Tryz.f38, go_sem, seval, reduceCtorEq, ↓reduceIte]
  refine awp_weak (Weak.ofNil 3 2 (by simp (disch := omega) only [go_sem, seval, reduceCtorEq, ↓reduceIte]) (by simp) (Weak.refl _ _ _)) ?_
  refine awp_join [1] (fun m : List Flt => [(3, .sl 1 0 m.length m.length)]) (fun m => netH n ++ [.elems 2 (m.map eF)]) (fun m => FR (pF 26) (n.places.length ≤ 24) 1 m) ?_ ?_
  · simp (disch := omega) only [go_sem, seval, reduceCtorEq, ↓reduceIte]
    refine acond_b (fun h => ?_) (fun h => ?_) <;> (try simp only [decide_eq_true_eq, decide_eq_false_iff_not] at h) <;> simp (disch := omega) only [Sh.out h, go_sem, seval, reduceCtorEq, ↓reduceIte]
    · exact ⟨[(4, [112, 108, 97, 99, 101, 115])], ⟨by simp, by simp; omega, by simp [pF]⟩, Weak.mk (by simp (disch := omega) only [netH, go_sem, seval, reduceCtorEq, ↓reduceIte])⟩
    · exact ⟨[], FR.nil (by omega), Weak.mk (by simp (disch := omega) only [netH, go_sem, seval, reduceCtorEq, ↓reduceIte])⟩
  · intro m hm
    refine awp_sound [] _ _ _ _ ?_
    simp (disch := omega) only [netH, go_sem, seval, reduceCtorEq, ↓reduceIte]
    refine awp_for [1] (fun q : Nat × List Flt => [(3, .sl 1 0 q.2.length q.2.length), (4, .p (.int .i64 q.1))]) (fun q => netH n ++ [.elems 2 (q.2.map eF)]) (fun q => q.1 ≤ n.places.length ∧ FR (pF 26) (n.places.length ≤ 24 ∧ ∀ j, j < q.1 → plOk n j) (q.1 + 1) q.2) (fun q => n.places.length - q.1) (0, m) ⟨by simp, hm.to (by simp) (by simp)⟩ (Weak.mk ?_) ?_
    · simp (disch := omega) only [netH, go_sem, seval, reduceCtorEq, ↓reduceIte]
    · rintro ⟨k, m⟩ ⟨hk, hm⟩
      simp only at hk hm
      have hml := hm.len
      simp (disch := omega) only [netH, go_sem, seval, reduceCtorEq, ↓reduceIte]
      refine acond_b (fun h => ?_) (fun h => ?_) <;> (try simp only [decide_eq_true_eq, decide_eq_false_iff_not] at h) <;> simp (disch := omega) only [Sh.out h, go_sem, seval, reduceCtorEq, ↓reduceIte]
      · have hk2 : k < n.places.length := by omega
        have hI : I64 (k : Int) := by omega
        have hdl := decI_len k hI
        refine (dec01_c k hI).use ?_
        simp (disch := omega) only [go_sem, seval, reduceCtorEq, ↓reduceIte]
        simp (disch := first | omega | (simp only [List.length_cons, List.length_nil, List.length_append, List.length_map, List.length_take, List.length_drop] <;> omega)) only [go_sem, seval, reduceCtorEq, ↓reduceIte]
        refine (name_c (nth n.places k) (hs _ (by rw [nth_get hk2]; exact List.getElem_mem _))).use ?_
        simp (disch := omega) only [go_sem, seval, reduceCtorEq, ↓reduceIte]
        refine acond_b (fun h2 => ?_) (fun h2 => ?_) <;> (try simp only [decide_eq_true_eq, decide_eq_false_iff_not] at h2) <;> simp (disch := omega) only [Sh.out h2, go_sem, seval, reduceCtorEq, ↓reduceIte]
        · simp only [Bool.not_eq_true'] at h2
          exact ⟨(k + 1, m ++ [(5, [112, 108, 97, 99, 101, 32] ++ decI k)]), ⟨by simp only; omega, (hm.yes (c := plOk n k) (by rw [plOk, h2]; simp) (by simp [pF]; omega)).to (by simp) (by simp only [upto_iff, and_assoc])⟩, by simp only; omega, Weak.mk (by simp (disch := omega) only [netH, go_sem, seval, reduceCtorEq, ↓reduceIte])⟩
        · simp only [Bool.not_eq_false'] at h2
          refine awp_for [1, 3, 4, 5] (fun q : Nat × Bool => [(6, .p (.bool q.2)), (7, .p (.int .i64 q.1))]) (fun _ => netH n ++ [.elems 2 (m.map eF)]) (fun q => q.1 ≤ k ∧ (q.2 = false ↔ ∀ j, j < q.1 → nth n.places j ≠ nth n.places k)) (fun q => k - q.1) (0, false) (by simp) (Weak.mk ?_) ?_
          · simp (disch := omega) only [netH, go_sem, seval, reduceCtorEq, ↓reduceIte]
          · rintro ⟨j, b⟩ ⟨hj, hb⟩
            simp only at hj hb
            simp (disch := omega) only [netH, go_sem, seval, reduceCtorEq, ↓reduceIte]
            refine acond_b (fun h3 => ?_) (fun h3 => ?_) <;> (try simp only [decide_eq_true_eq, decide_eq_false_iff_not] at h3) <;> simp (disch := omega) only [Sh.out h3, go_sem, seval, reduceCtorEq, ↓reduceIte]
            · refine awp_drawnS 14 mixed (by kernel_rfl) (by kernel_rfl) ?_
              simp (disch := omega) only [go_sem, seval, reduceCtorEq, ↓reduceIte]
              have hjn : j < n.places.length := by omega
              cases b with
              | true =>
                simp (disch := omega) only [go_sem, seval, reduceCtorEq, ↓reduceIte]
                exact ⟨(j + 1, true), ⟨by simp only; omega, by rw [upto_iff, ← hb]; simp⟩, by simp only; omega, Weak.mk (by simp (disch := omega) only [netH, go_sem, seval, reduceCtorEq, ↓reduceIte])⟩
              | false =>
                simp (disch := omega) only [go_sem, seval, reduceCtorEq, ↓reduceIte]
                refine ⟨(j + 1, decide (nth n.places j = nth n.places k)), ⟨by simp only; omega, by rw [upto_iff, ← hb]; simp⟩, by simp only; omega, Weak.mk (by simp (disch := omega) only [netH, go_sem, seval, reduceCtorEq, ↓reduceIte])⟩
            · have hjk : j = k := by omega
              subst hjk
              cases b with
              | true =>
                simp (disch := omega) only [go_sem, seval, reduceCtorEq, ↓reduceIte]
                have hno : ¬ plOk n j := fun h5 => by have := hb.2 h5.2; cases this
                exact ⟨(j + 1, m ++ [(6, [112, 108, 97, 99, 101, 32] ++ decI j)]), ⟨by simp only; omega, (hm.yes (c := plOk n j) hno (by simp [pF]; omega)).to (by simp) (by simp only [upto_iff, and_assoc])⟩, by simp only; omega, Weak.mk (by simp (disch := omega) only [netH, go_sem, seval, reduceCtorEq, ↓reduceIte])⟩
              | false =>
                simp (disch := omega) only [go_sem, seval, reduceCtorEq, ↓reduceIte]
                exact ⟨(j + 1, m), ⟨by simp only; omega, (hm.no (c := plOk n j) ⟨h2, hb.1 rfl⟩).to (by simp) (by simp only [upto_iff, and_assoc])⟩, by simp only; omega, Weak.mk (by simp (disch := omega) only [netH, go_sem, seval, reduceCtorEq, ↓reduceIte])⟩
      · have hkn : k = n.places.length := by omega
        subst hkn
        exact ⟨m, hm.to (by omega) (by rw [placesOk]), 1, by simp (disch := omega) only [go_sem, seval, reduceCtorEq, ↓reduceIte]⟩
end Go.Proofs.YtccjopdlbolnhaaGreat.K
set_option linter.unusedVariables false
set_option linter.unusedSimpArgs false
namespace Go.Proofs.YtccjopdlbolnhaaGreat.K
open Go Go.AM Go.Proofs
set_option maxRecDepth 8000
set_option maxHeartbeats 16000000
def arcO (a : Arc) : AM.Obj := .cells [.p (.int .i64 a.src), .p (.int .i64 a.dst), .p (.int .i64 a.prof), .p (.int .i64 a.miles), .p (.list a.travel_c (a.travel.map ePt)), .p (.list a.slow_c (a.slow.map ePt))]
abbrev sameEnds (a b : Arc) : Prop := a.src = b.src ∧ a.dst = b.dst ∧ a.prof = b.prof
theorem ckArc_c (n : Net) (i : Nat) (hi : i < n.arcs.length) (hp : n.places.length ≤ 1048576) (ha : n.arcs.length ≤ 1048576) (ht : (nth n.arcs i).travel.length ≤ 1048576) (hsl : (nth n.arcs i).slow.length ≤ 1048576) :
    ACalls Tryz.prog 39 [.p (eNet n), .p (.int .i64 (i : Nat))] [] fun x H' => ∃ m : List Flt, FR (pF 26) (arcOk n i) 4000000 m ∧ x = .sl 0 0 m.length m.length ∧ H' = [.elems 2 (m.map eF)] := by
  refine acalls_freshE [4] (fn := Tryz.f39) Tryz.func39 rfl isF39 ?_
  simp (disch := omega) only [Tryz.f39, go_sem, seval, reduceCtorEq, ↓reduceIte]
  have hI : I64 (i : Int) := by omega
  have hdl := decI_len i hI
  refine (dec01_c i hI).use ?_
  simp (disch := omega) only [go_sem, seval, reduceCtorEq, ↓reduceIte]
  simp (disch := first | omega | (simp only [List.length_cons, List.length_nil, List.length_append, List.length_map, List.length_take, List.length_drop] <;> omega)) only [go_sem, seval, reduceCtorEq, ↓reduceIte]
  have hat : (97 :: 114 :: 99 :: 32 :: decI i).length ≤ 26 := by simp; omega
  generalize hga : nth n.arcs i = a at ht hsl ⊢
  generalize 97 :: 114 :: 99 :: 32 :: decI i = at' at hat ⊢
  refine awp_weak (Weak.ofNil 5 2 (by simp (disch := omega) only [go_sem, seval, reduceCtorEq, ↓reduceIte]) (by simp) (Weak.refl _ _ _)) ?_
  refine awp_join [1, 2, 6, 7] (fun m : List Flt => [(5, .sl 2 0 m.length m.length)]) (fun m => netH n ++ [arcO a, .elems 2 (m.map eF)]) (fun m => FR (pF 26) (0 ≤ a.src ∧ a.src < n.places.length ∧ 0 ≤ a.dst ∧ a.dst < n.places.length) 1 m) ?_ ?_
  · simp (disch := omega) only [go_sem, seval, reduceCtorEq, ↓reduceIte]
    repeat' (first | (refine aguard_t (fun hq => ?_) (fun hq => ?_) <;> (try simp only [decide_eq_true_eq, decide_eq_false_iff_not, Classical.not_not] at hq) <;> simp (disch := omega) only [Sh.out hq, go_sem, seval, reduceCtorEq, ↓reduceIte]) | (refine aguard_f (fun hq => ?_) (fun hq => ?_) <;> (try simp only [decide_eq_true_eq, decide_eq_false_iff_not, Classical.not_not] at hq) <;> simp (disch := omega) only [Sh.out hq, go_sem, seval, reduceCtorEq, ↓reduceIte]) | (refine acond_b (fun hq => ?_) (fun hq => ?_) <;> (try simp only [decide_eq_true_eq, decide_eq_false_iff_not, Classical.not_not] at hq) <;> simp (disch := omega) only [Sh.out hq, go_sem, seval, reduceCtorEq, ↓reduceIte]))
    all_goals try exact ⟨[], FR.nil (by omega), Weak.mk (by simp (disch := omega) only [netH, arcO, go_sem, seval, reduceCtorEq, ↓reduceIte])⟩
    all_goals exact ⟨[(11, at')], ⟨by simp, by simp; omega, by simpa [pF] using hat⟩, Weak.mk (by simp (disch := omega) only [netH, arcO, go_sem, seval, reduceCtorEq, ↓reduceIte])⟩
  · intro m hm
    refine awp_sound [6] _ _ _ _ ?_
    simp (disch := omega) only [netH, arcO, go_sem, seval, reduceCtorEq, ↓reduceIte]
    have hml := hm.len
    refine awp_join [1, 2, 6, 7] (fun m : List Flt => [(5, .sl 2 0 m.length m.length)]) (fun m => netH n ++ [arcO a, .elems 2 (m.map eF)])
      (fun m => FR (pF 26) ((0 ≤ a.src ∧ a.src < n.places.length ∧ 0 ≤ a.dst ∧ a.dst < n.places.length) ∧ (0 ≤ a.prof ∧ a.prof ≤ 7 ∧ 0 ≤ a.miles ∧ a.miles ≤ 10000 ∧ a.src ≠ a.dst)) 2 m) ?_ ?_
    · simp (disch := omega) only [go_sem, seval, reduceCtorEq, ↓reduceIte]
      repeat' (first | (refine aguard_t (fun hq => ?_) (fun hq => ?_) <;> (try simp only [decide_eq_true_eq, decide_eq_false_iff_not, Classical.not_not] at hq) <;> simp (disch := omega) only [Sh.out hq, go_sem, seval, reduceCtorEq, ↓reduceIte]) | (refine aguard_f (fun hq => ?_) (fun hq => ?_) <;> (try simp only [decide_eq_true_eq, decide_eq_false_iff_not, Classical.not_not] at hq) <;> simp (disch := omega) only [Sh.out hq, go_sem, seval, reduceCtorEq, ↓reduceIte]) | (refine acond_b (fun hq => ?_) (fun hq => ?_) <;> (try simp only [decide_eq_true_eq, decide_eq_false_iff_not, Classical.not_not] at hq) <;> simp (disch := omega) only [Sh.out hq, go_sem, seval, reduceCtorEq, ↓reduceIte]))
      all_goals try exact ⟨m, hm.no (by omega), Weak.mk (by simp (disch := omega) only [netH, arcO, go_sem, seval, reduceCtorEq, ↓reduceIte])⟩
      all_goals exact ⟨m ++ [(2, at')], hm.yes (by omega) (by simpa [pF] using hat), Weak.mk (by simp (disch := omega) only [netH, arcO, go_sem, seval, reduceCtorEq, ↓reduceIte])⟩
    · clear hm hml
      intro m hm
      refine awp_sound [14] _ _ _ _ ?_
      simp (disch := omega) only [netH, arcO, go_sem, seval, reduceCtorEq, ↓reduceIte]
      have hml := hm.len
      refine awp_forC [14] [1, 2, 5, 6, 7] (fun q : Nat × Bool => [(8, .p (.bool q.2)), (9, .p (.int .i64 q.1))]) (fun _ => netH n ++ [arcO a, .elems 2 (m.map eF)]) (fun q => q.1 ≤ i ∧ (q.2 = false ↔ ∀ j, j < q.1 → ¬ sameEnds a (nth n.arcs j))) (fun q => i - q.1) (0, false) (by simp) (Weak.mk ?_) ?_
      · simp (disch := omega) only [netH, arcO, go_sem, seval, reduceCtorEq, ↓reduceIte]
      · rintro ⟨k, b⟩ ⟨hk, hb⟩
        simp only at hk hb
        simp (disch := omega) only [netH, arcO, go_sem, seval, reduceCtorEq, ↓reduceIte]
        refine acond_b (fun h => ?_) (fun h => ?_) <;> (try simp only [decide_eq_true_eq, decide_eq_false_iff_not] at h) <;> simp (disch := omega) only [Sh.out h, go_sem, seval, reduceCtorEq, ↓reduceIte]
        · have hkn : k < n.arcs.length := by omega
          cases b with
          | true =>
            simp (disch := omega) only [go_sem, seval, reduceCtorEq, ↓reduceIte]
            exact ⟨(k + 1, true), ⟨by simp only; omega, by rw [upto_iff, ← hb]; simp⟩, by simp only; omega, Weak.mk (by simp (disch := omega) only [netH, arcO, go_sem, seval, reduceCtorEq, ↓reduceIte])⟩
          | false =>
            simp (disch := omega) only [go_sem, seval, reduceCtorEq, ↓reduceIte]
            repeat' (first | (refine aguard_t (fun hq => ?_) (fun hq => ?_) <;> (try simp only [decide_eq_true_eq, decide_eq_false_iff_not, Classical.not_not] at hq) <;> simp (disch := omega) only [Sh.out hq, go_sem, seval, reduceCtorEq, ↓reduceIte]) | (refine aguard_f (fun hq => ?_) (fun hq => ?_) <;> (try simp only [decide_eq_true_eq, decide_eq_false_iff_not, Classical.not_not] at hq) <;> simp (disch := omega) only [Sh.out hq, go_sem, seval, reduceCtorEq, ↓reduceIte]) | (refine acond_b (fun hq => ?_) (fun hq => ?_) <;> (try simp only [decide_eq_true_eq, decide_eq_false_iff_not, Classical.not_not] at hq) <;> simp (disch := omega) only [Sh.out hq, go_sem, seval, reduceCtorEq, ↓reduceIte]))
            all_goals refine ⟨(k + 1, decide (sameEnds a (nth n.arcs k))), ⟨by simp only; omega, by rw [upto_iff, ← hb]; simp⟩, by simp only; omega, Weak.mk ?_⟩
            all_goals simp (disch := omega) only [netH, arcO, go_sem, seval, reduceCtorEq, ↓reduceIte]
            all_goals simp [sameEnds, *]
        · have hki : k = i := by omega
          subst hki
          have htw : (b = false ↔ ∀ j, j < k → ¬ sameEnds a (nth n.arcs j)) := hb
          clear hb hk h
          refine awp_join [6, 7] (fun m : List Flt => [(5, .sl 2 0 m.length m.length)]) (fun m => netH n ++ [arcO a, .elems 2 (m.map eF)])
            (fun m => FR (pF 26) (((0 ≤ a.src ∧ a.src < n.places.length ∧ 0 ≤ a.dst ∧ a.dst < n.places.length) ∧ (0 ≤ a.prof ∧ a.prof ≤ 7 ∧ 0 ≤ a.miles ∧ a.miles ≤ 10000 ∧ a.src ≠ a.dst)) ∧ ∀ j, j < k → ¬ sameEnds a (nth n.arcs j)) 3 m) ?_ ?_
          · simp (disch := omega) only [go_sem, seval, reduceCtorEq, ↓reduceIte]
            cases b with
            | true =>
              simp (disch := omega) only [go_sem, seval, reduceCtorEq, ↓reduceIte]
              exact ⟨m ++ [(6, at')], hm.yes (by rw [← htw]; simp) (by simpa [pF] using hat), Weak.mk (by simp (disch := omega) only [netH, arcO, go_sem, seval, reduceCtorEq, ↓reduceIte])⟩
            | false =>
              simp (disch := omega) only [go_sem, seval, reduceCtorEq, ↓reduceIte]
              exact ⟨m, hm.no (htw.1 rfl), Weak.mk (by simp (disch := omega) only [netH, arcO, go_sem, seval, reduceCtorEq, ↓reduceIte])⟩
          · clear hm hml
            intro m hm
            refine awp_sound [21] _ _ _ _ ?_
            simp (disch := omega) only [netH, arcO, go_sem, seval, reduceCtorEq, ↓reduceIte]
            have hml := hm.len
            refine ((ck07_c a.travel a.travel_c ht).frozenE).useV fun lt hlt => ?_
            simp (disch := omega) only [go_sem, seval, reduceCtorEq, ↓reduceIte]
            have hltl := hlt.len
            refine awp_forC [21] [6, 7, 11] (fun q : Nat × List Flt => [(5, .sl 2 0 q.2.length q.2.length), (12, .p (.int .i64 q.1))]) (fun q => netH n ++ [arcO a, .elems 2 (q.2.map eF)])
              (fun q => q.1 ≤ lt.length ∧ FR (pF 26) ((((0 ≤ a.src ∧ a.src < n.places.length ∧ 0 ≤ a.dst ∧ a.dst < n.places.length) ∧ (0 ≤ a.prof ∧ a.prof ≤ 7 ∧ 0 ≤ a.miles ∧ a.miles ≤ 10000 ∧ a.src ≠ a.dst)) ∧ ∀ j, j < k → ¬ sameEnds a (nth n.arcs j)) ∧ q.1 = 0) (3 + q.1) q.2) (fun q => lt.length - q.1) (0, m) ⟨by simp, hm.to (by simp) (by simp)⟩ (Weak.mk ?_) ?_
            · simp (disch := omega) only [netH, arcO, go_sem, seval, reduceCtorEq, ↓reduceIte]
            · clear hm hml
              rintro ⟨j, m⟩ ⟨hj, hm⟩
              simp only at hj hm
              have hml := hm.len
              simp (disch := omega) only [netH, arcO, go_sem, seval, reduceCtorEq, ↓reduceIte]
              refine acond_b (fun h => ?_) (fun h => ?_) <;> (try simp only [decide_eq_true_eq, decide_eq_false_iff_not] at h) <;> simp (disch := omega) only [Sh.out h, go_sem, seval, reduceCtorEq, ↓reduceIte]
              · have hj2 : j < lt.length := by omega
                exact ⟨(j + 1, m ++ [((nth lt j).1, at')]), ⟨by simp only; omega, (hm.yes (c := False) (by simp) (by simpa [pF] using hat)).to (by simp only; omega) (by simp)⟩, by simp only; omega, Weak.mk (by simp (disch := omega) only [netH, arcO, go_sem, seval, reduceCtorEq, ↓reduceIte])⟩
              · have hjl : j = lt.length := by omega
                subst hjl
                have hm2 := hm.to (d := 3 + lt.length) (D := (((0 ≤ a.src ∧ a.src < n.places.length ∧ 0 ≤ a.dst ∧ a.dst < n.places.length) ∧ (0 ≤ a.prof ∧ a.prof ≤ 7 ∧ 0 ≤ a.miles ∧ a.miles ≤ 10000 ∧ a.src ≠ a.dst)) ∧ ∀ j, j < k → ¬ sameEnds a (nth n.arcs j)) ∧ ptsOk a.travel) (Nat.le_refl _) (by rw [← hlt.emp, List.eq_nil_iff_length_eq_zero])
                clear hm
                refine awp_join [6, 7] (fun m : List Flt => [(5, .sl 2 0 m.length m.length)]) (fun m => netH n ++ [arcO a, .elems 2 (m.map eF)])
                  (fun m => FR (pF 26) (((((0 ≤ a.src ∧ a.src < n.places.length ∧ 0 ≤ a.dst ∧ a.dst < n.places.length) ∧ (0 ≤ a.prof ∧ a.prof ≤ 7 ∧ 0 ≤ a.miles ∧ a.miles ≤ 10000 ∧ a.src ≠ a.dst)) ∧ ∀ j, j < k → ¬ sameEnds a (nth n.arcs j)) ∧ ptsOk a.travel) ∧ a.slow.length ≤ 16) (4 + lt.length) m) ?_ ?_
                · simp (disch := omega) only [go_sem, seval, reduceCtorEq, ↓reduceIte]
                  refine acond_b (fun h2 => ?_) (fun h2 => ?_) <;> (try simp only [decide_eq_true_eq, decide_eq_false_iff_not] at h2) <;> simp (disch := omega) only [Sh.out h2, go_sem, seval, reduceCtorEq, ↓reduceIte]
                  · exact ⟨m ++ [(4, at')], (hm2.yes (by omega) (by simpa [pF] using hat)).to (by omega) Iff.rfl, Weak.mk (by simp (disch := omega) only [netH, arcO, go_sem, seval, reduceCtorEq, ↓reduceIte])⟩
                  · exact ⟨m, (hm2.no (by omega)).to (by omega) Iff.rfl, Weak.mk (by simp (disch := omega) only [netH, arcO, go_sem, seval, reduceCtorEq, ↓reduceIte])⟩
                · clear hm2 hml h hj
                  intro m hm
                  refine awp_sound [] _ _ _ _ ?_
                  simp (disch := omega) only [netH, arcO, go_sem, seval, reduceCtorEq, ↓reduceIte]
                  refine awp_for [6, 7] (fun q : Nat × List Flt => [(5, .sl 2 0 q.2.length q.2.length), (13, .p (.int .i64 q.1))]) (fun q => netH n ++ [arcO a, .elems 2 (q.2.map eF)])
                    (fun q => q.1 ≤ a.slow.length ∧ FR (pF 26) ((((((0 ≤ a.src ∧ a.src < n.places.length ∧ 0 ≤ a.dst ∧ a.dst < n.places.length) ∧ (0 ≤ a.prof ∧ a.prof ≤ 7 ∧ 0 ≤ a.miles ∧ a.miles ≤ 10000 ∧ a.src ≠ a.dst)) ∧ ∀ j, j < k → ¬ sameEnds a (nth n.arcs j)) ∧ ptsOk a.travel) ∧ a.slow.length ≤ 16) ∧ ∀ j, j < q.1 → slowOk a.slow j) (4 + lt.length + q.1) q.2) (fun q => a.slow.length - q.1) (0, m) ⟨by simp, hm.to (by simp) (by simp)⟩ (Weak.mk ?_) ?_
                  · simp (disch := omega) only [netH, arcO, go_sem, seval, reduceCtorEq, ↓reduceIte]
                  · clear hm
                    rintro ⟨j, m⟩ ⟨hj, hm⟩
                    simp only at hj hm
                    have hml := hm.len
                    simp (disch := omega) only [netH, arcO, go_sem, seval, reduceCtorEq, ↓reduceIte]
                    refine acond_b (fun h => ?_) (fun h => ?_) <;> (try simp only [decide_eq_true_eq, decide_eq_false_iff_not] at h) <;> simp (disch := omega) only [Sh.out h, go_sem, seval, reduceCtorEq, ↓reduceIte]
                    · have hj2 : j < a.slow.length := by omega
                      refine awp_drawnA mixed (by kernel_rfl) (by kernel_rfl) ?_
                      simp (disch := omega) only [go_sem, seval, reduceCtorEq, ↓reduceIte]
                      refine exq_call (tick09_c (nth a.slow j).t) ?_
                      simp (disch := omega) only [go_sem, seval, reduceCtorEq, ↓reduceIte]
                      have hslo : slowOk a.slow j ↔ (tick (nth a.slow j).t = true ∧ tick (nth a.slow j).a = true ∧ (0 < j → (nth a.slow (j - 1)).t < (nth a.slow j).t)) := Iff.rfl
                      have hyes : ¬ slowOk a.slow j → _ := fun hs => (hm.yes (x := (2, at')) hs (by simpa [pF] using hat)).to (D := (((((0 ≤ a.src ∧ a.src < n.places.length ∧ 0 ≤ a.dst ∧ a.dst < n.places.length) ∧ (0 ≤ a.prof ∧ a.prof ≤ 7 ∧ 0 ≤ a.miles ∧ a.miles ≤ 10000 ∧ a.src ≠ a.dst)) ∧ ∀ j, j < k → ¬ sameEnds a (nth n.arcs j)) ∧ ptsOk a.travel) ∧ a.slow.length ≤ 16) ∧ ∀ i, i < j + 1 → slowOk a.slow i) (d := 4 + lt.length + (j + 1)) (by omega) (by simp only [upto_iff, and_assoc])
                      have hno : slowOk a.slow j → _ := fun hs => (hm.no hs).to (D := (((((0 ≤ a.src ∧ a.src < n.places.length ∧ 0 ≤ a.dst ∧ a.dst < n.places.length) ∧ (0 ≤ a.prof ∧ a.prof ≤ 7 ∧ 0 ≤ a.miles ∧ a.miles ≤ 10000 ∧ a.src ≠ a.dst)) ∧ ∀ j, j < k → ¬ sameEnds a (nth n.arcs j)) ∧ ptsOk a.travel) ∧ a.slow.length ≤ 16) ∧ ∀ i, i < j + 1 → slowOk a.slow i) (d := 4 + lt.length + (j + 1)) (by omega) (by simp only [upto_iff, and_assoc])
                      cases ht1 : tick (nth a.slow j).t with
                      | false =>
                        simp (disch := omega) only [go_sem, seval, reduceCtorEq, ↓reduceIte]
                        exact ⟨(j + 1, m ++ [(2, at')]), ⟨by simp only; omega, hyes (by rw [hslo, ht1]; simp)⟩, by simp only; omega, Weak.mk (by simp (disch := omega) only [netH, arcO, go_sem, seval, reduceCtorEq, ↓reduceIte])⟩
                      | true =>
                        simp (disch := omega) only [go_sem, seval, reduceCtorEq, ↓reduceIte]
                        refine exq_call (tick09_c (nth a.slow j).a) ?_
                        simp (disch := omega) only [go_sem, seval, reduceCtorEq, ↓reduceIte]
                        cases ht2 : tick (nth a.slow j).a with
                        | false =>
                          simp (disch := omega) only [go_sem, seval, reduceCtorEq, ↓reduceIte]
                          exact ⟨(j + 1, m ++ [(2, at')]), ⟨by simp only; omega, hyes (by rw [hslo, ht2]; simp)⟩, by simp only; omega, Weak.mk (by simp (disch := omega) only [netH, arcO, go_sem, seval, reduceCtorEq, ↓reduceIte])⟩
                        | true =>
                          simp (disch := omega) only [go_sem, seval, reduceCtorEq, ↓reduceIte]
                          repeat' (first | (refine aguard_t (fun hq => ?_) (fun hq => ?_) <;> (try simp only [decide_eq_true_eq, decide_eq_false_iff_not, Classical.not_not] at hq) <;> simp (disch := omega) only [Sh.out hq, go_sem, seval, reduceCtorEq, ↓reduceIte]) | (refine aguard_f (fun hq => ?_) (fun hq => ?_) <;> (try simp only [decide_eq_true_eq, decide_eq_false_iff_not, Classical.not_not] at hq) <;> simp (disch := omega) only [Sh.out hq, go_sem, seval, reduceCtorEq, ↓reduceIte]) | (refine acond_b (fun hq => ?_) (fun hq => ?_) <;> (try simp only [decide_eq_true_eq, decide_eq_false_iff_not, Classical.not_not] at hq) <;> simp (disch := omega) only [Sh.out hq, go_sem, seval, reduceCtorEq, ↓reduceIte]))
                          · exact ⟨(j + 1, m ++ [(2, at')]), ⟨by simp only; omega, hyes (by rw [hslo]; omega)⟩, by simp only; omega, Weak.mk (by simp (disch := omega) only [netH, arcO, go_sem, seval, reduceCtorEq, ↓reduceIte])⟩
                          · exact ⟨(j + 1, m), ⟨by simp only; omega, hno (by rw [hslo]; exact ⟨ht1, ht2, by omega⟩)⟩, by simp only; omega, Weak.mk (by simp (disch := omega) only [netH, arcO, go_sem, seval, reduceCtorEq, ↓reduceIte])⟩
                          · exact ⟨(j + 1, m), ⟨by simp only; omega, hno (by rw [hslo]; exact ⟨ht1, ht2, by omega⟩)⟩, by simp only; omega, Weak.mk (by simp (disch := omega) only [netH, arcO, go_sem, seval, reduceCtorEq, ↓reduceIte])⟩
                    · have hjn : j = a.slow.length := by omega
                      subst hjn
                      exact ⟨m, hm.to (by omega) (by rw [arcOk, hga]), 2, by simp (disch := omega) only [netH, arcO, go_sem, seval, reduceCtorEq, ↓reduceIte]⟩
end Go.Proofs.YtccjopdlbolnhaaGreat.K
set_option linter.unusedVariables false
set_option linter.unusedSimpArgs false
namespace Go.Proofs.YtccjopdlbolnhaaGreat.K
open Go Go.AM Go.Proofs
set_option maxRecDepth 8000
set_option maxHeartbeats 8000000
theorem nth_mem {α : Type} [Inhabited α] {l : List α} {i : Nat} (h : i < l.length) : nth l i ∈ l := by rw [nth_get h]; exact List.getElem_mem _
theorem ck09_c (n : Net) (hw : n.wf 1048576) : ACalls Tryz.prog 21 [.p (eNet n)] [] fun x H' => ∃ m : List Flt, FR (pF 26) (netOk n) 4194306000000 m ∧ x = .sl 0 0 m.length m.length ∧ H' = [.elems 2 (m.map eF)] := by
  obtain ⟨w1, w2, w3, w4⟩ := hw
  refine acalls_freshE [2] (fn := Tryz.f21) Tryz.func21 rfl isF21 ?_
  simp (disch := omega) only [Tryz.f21, go_sem, seval, reduceCtorEq, ↓reduceIte]
  refine (ckPlaces_c n w1 w2).useE fun m hm => ?_
  simp (disch := omega) only [go_sem, seval, reduceCtorEq, ↓reduceIte]
  have hml := hm.len
  refine awp_join [1] (fun m : List Flt => [(3, .sl 1 0 m.length m.length)]) (fun m => netH n ++ [.elems 2 (m.map eF)]) (fun m => FR (pF 26) (placesOk n ∧ n.arcs.length ≤ 1024) (n.places.length + 2) m) ?_ ?_
  · simp (disch := omega) only [go_sem, seval, reduceCtorEq, ↓reduceIte]
    refine acond_b (fun h => ?_) (fun h => ?_) <;> (try simp only [decide_eq_true_eq, decide_eq_false_iff_not] at h) <;> simp (disch := omega) only [Sh.out h, go_sem, seval, reduceCtorEq, ↓reduceIte]
    · exact ⟨m ++ [(4, [97, 114, 99, 115])], hm.yes (by omega) (by simp [pF]), Weak.mk (by simp (disch := omega) only [netH, go_sem, seval, reduceCtorEq, ↓reduceIte])⟩
    · exact ⟨m, hm.no (by omega), Weak.mk (by simp (disch := omega) only [netH, go_sem, seval, reduceCtorEq, ↓reduceIte])⟩
  · clear hm hml
    intro m hm
    refine awp_sound [] _ _ _ _ ?_
    simp (disch := omega) only [netH, go_sem, seval, reduceCtorEq, ↓reduceIte]
    refine awp_for [1] (fun q : Nat × List Flt => [(3, .sl 1 0 q.2.length q.2.length), (4, .p (.int .i64 q.1))]) (fun q => netH n ++ [.elems 2 (q.2.map eF)]) (fun q => q.1 ≤ n.arcs.length ∧ FR (pF 26) ((placesOk n ∧ n.arcs.length ≤ 1024) ∧ ∀ j, j < q.1 → arcOk n j) (n.places.length + 2 + q.1 * 4000000) q.2) (fun q => n.arcs.length - q.1) (0, m) ⟨by simp, hm.to (by simp) (by simp)⟩ (Weak.mk ?_) ?_
    · simp (disch := omega) only [netH, go_sem, seval, reduceCtorEq, ↓reduceIte]
    · clear hm
      rintro ⟨k, m⟩ ⟨hk, hm⟩
      simp only at hk hm
      have hml := hm.len
      simp (disch := omega) only [netH, go_sem, seval, reduceCtorEq, ↓reduceIte]
      refine acond_b (fun h => ?_) (fun h => ?_) <;> (try simp only [decide_eq_true_eq, decide_eq_false_iff_not] at h) <;> simp (disch := omega) only [Sh.out h, go_sem, seval, reduceCtorEq, ↓reduceIte]
      · have hk2 : k < n.arcs.length := by omega
        have ha := w4 _ (nth_mem hk2)
        refine (ckArc_c n k hk2 w1 w3 ha.2.2.2.2.1 ha.2.2.2.2.2.2.1).useE fun f hf => ?_
        simp (disch := omega) only [go_sem, seval, reduceCtorEq, ↓reduceIte]
        have hfl := hf.len
        have q1 : (m.length + f.length) * 24 ≤ 140737488355328 := by omega
        have q2 : m.length + f.length ≤ 140737488355328 := by omega
        simp (disch := omega) only [q1, q2, go_sem, seval, reduceCtorEq, ↓reduceIte]
        refine ⟨(k + 1, m ++ f), ⟨by simp only; omega, (hm.app hf).to (by simp only; omega) (by simp only [upto_iff, and_assoc])⟩, by simp only; omega, Weak.mk ?_⟩
        simp (disch := omega) only [netH, List.length_append, List.map_append, go_sem, seval, reduceCtorEq, ↓reduceIte]
      · have hkn : k = n.arcs.length := by omega
        subst hkn
        exact ⟨m, hm.to (by omega) (by rw [netOk]), 1, by simp (disch := omega) only [netH, go_sem, seval, reduceCtorEq, ↓reduceIte]⟩
end Go.Proofs.YtccjopdlbolnhaaGreat.K
set_option linter.unusedVariables false
set_option linter.unusedSimpArgs false
namespace Go.Proofs.YtccjopdlbolnhaaGreat.K
open Go Go.AM Go.Proofs
set_option maxRecDepth 8000
set_option maxHeartbeats 16000000
theorem in10_c (n lo hi : Int) : ACalls Tryz.prog 40 [.p (.int .i64 n), .p (.int .i64 lo), .p (.int .i64 hi)] [] fun x H' => x = .p (.bool (rng n lo hi)) ∧ H' = [] := by
  refine acalls_pure (fn := Tryz.f40) Tryz.func40 rfl isF40 ?_
  simp (disch := omega) only [Tryz.f40, go_sem, seval, reduceCtorEq, ↓reduceIte]
  refine aguard_t (fun h => ?_) (fun h => ?_) <;> (try simp only [decide_eq_true_eq, decide_eq_false_iff_not] at h) <;> simp (disch := omega) only [Sh.out h, go_sem, seval, reduceCtorEq, ↓reduceIte]
  all_goals (simp [rng]; first | done | omega | (rw [Bool.eq_iff_iff]; simp; omega))
def capOk (l : List Int) (d : Int) : Bool := rng l.length 1 3 && decide ((l.length : Int) = d) && l.all fun n => rng n 0 1000
theorem capacity_c (l : List Int) (c : Bool) (d : Int) (hl : l.length ≤ 1048576) : ACalls Tryz.prog 65 [.p (.list c (l.map eI)), .p (.int .i64 d)] [] fun x H' => x = .p (.bool (capOk l d)) ∧ H' = [] := by
  refine acalls_pure (fn := Tryz.f65) Tryz.func65 rfl isF65 ?_
  simp (disch := omega) only [Tryz.f65, go_sem, seval, reduceCtorEq, ↓reduceIte]
  refine (in10_c l.length 1 3).use ?_
  simp (disch := omega) only [go_sem, seval, reduceCtorEq, ↓reduceIte]
  refine aguard_f (fun h => ?_) (fun h => ?_) <;> (try simp only [decide_eq_true_eq, decide_eq_false_iff_not] at h) <;> simp (disch := omega) only [Sh.out h, go_sem, seval, reduceCtorEq, ↓reduceIte]
  · simp only [Bool.not_eq_true'] at h
    simp [capOk, h]
  · simp only [Bool.not_eq_false'] at h
    refine acond_b (fun h2 => ?_) (fun h2 => ?_) <;> (try simp only [decide_eq_true_eq, decide_eq_false_iff_not] at h2) <;> simp (disch := omega) only [Sh.out h2, go_sem, seval, reduceCtorEq, ↓reduceIte]
    · simp [capOk, h, h2]
    · simp only [Classical.not_not] at h2
      subst h2
      refine awp_for [0] (fun k : Nat => [(5, .p (.int .i64 k))]) (fun _ => []) (fun k => k ≤ l.length ∧ ∀ j, j < k → rng (nth l j) 0 1000 = true) (fun k => l.length - k) 0 (by simp) (Weak.mk ?_) ?_
      · simp (disch := omega) only [go_sem, seval, reduceCtorEq, ↓reduceIte]
      · rintro k ⟨hk, hno⟩
        simp (disch := omega) only [go_sem, seval, reduceCtorEq, ↓reduceIte]
        refine acond_b (fun h3 => ?_) (fun h3 => ?_) <;> (try simp only [decide_eq_true_eq, decide_eq_false_iff_not] at h3) <;> simp (disch := omega) only [Sh.out h3, go_sem, seval, reduceCtorEq, ↓reduceIte]
        · have hk2 : k < l.length := by omega
          refine (in10_c (nth l k) 0 1000).use ?_
          simp (disch := omega) only [go_sem, seval, reduceCtorEq, ↓reduceIte]
          refine acond_b (fun h4 => ?_) (fun h4 => ?_) <;> (try simp only [decide_eq_true_eq, decide_eq_false_iff_not] at h4) <;> simp (disch := omega) only [Sh.out h4, go_sem, seval, reduceCtorEq, ↓reduceIte]
          · simp only [Bool.not_eq_true'] at h4
            have : l.all (fun n => rng n 0 1000) = false := by
              rw [List.all_eq_false]; exact ⟨nth l k, nth_mem hk2, by rw [h4]; simp⟩
            simp [capOk, this]
          · simp only [Bool.not_eq_false'] at h4
            exact ⟨k + 1, ⟨by omega, upto_iff.2 ⟨hno, h4⟩⟩, by omega, Weak.mk (by simp (disch := omega) only [go_sem, seval, reduceCtorEq, ↓reduceIte])⟩
        · have : l.all (fun n => rng n 0 1000) = true := by
            rw [List.all_eq_true]
            intro x hx
            obtain ⟨j, hj, rfl⟩ := List.mem_iff_getElem.1 hx
            rw [← nth_get hj]; exact hno j (by omega)
          simp [capOk, h, this]
/-- no earlier type has the name -/
def knownT (l : List Typ) (i : Nat) (s : List UInt8) : Bool := (List.range i).any fun j => decide ((nth l j).name = s)
theorem knownT_false {l : List Typ} {i : Nat} {s : List UInt8} : knownT l i s = false ↔ ∀ j, j < i → (nth l j).name ≠ s := by
  simp [knownT, List.any_eq_false]
theorem known10_c (l : List Typ) (c : Bool) (i : Nat) (s : List UInt8) (hi : i ≤ l.length) (hl : l.length ≤ 1048576) : ACalls Tryz.prog 64 [.p (.list c (l.map eTyp)), .p (.int .i64 (i : Nat)), .p (.str s)] [] fun x H' => x = .p (.bool (knownT l i s)) ∧ H' = [] := by
  refine acalls_pure (fn := Tryz.f64) Tryz.func64 rfl isF64 ?_
  simp (disch := omega) only [Tryz.f64, go_sem, seval, reduceCtorEq, ↓reduceIte]
  refine awp_for [0, 1, 2] (fun k : Nat => [(7, .p (.int .i64 k))]) (fun _ => []) (fun k => k ≤ i ∧ ∀ j, j < k → (nth l j).name ≠ s) (fun k => i - k) 0 (by simp) (Weak.mk ?_) ?_
  · simp (disch := omega) only [go_sem, seval, reduceCtorEq, ↓reduceIte]
  · rintro k ⟨hk, hno⟩
    simp (disch := omega) only [go_sem, seval, reduceCtorEq, ↓reduceIte]
    refine acond_b (fun h3 => ?_) (fun h3 => ?_) <;> (try simp only [decide_eq_true_eq, decide_eq_false_iff_not] at h3) <;> simp (disch := omega) only [Sh.out h3, go_sem, seval, reduceCtorEq, ↓reduceIte]
    · have hk2 : k < l.length := by omega
      refine acond_b (fun h4 => ?_) (fun h4 => ?_) <;> (try simp only [decide_eq_true_eq, decide_eq_false_iff_not] at h4) <;> simp (disch := omega) only [Sh.out h4, go_sem, seval, reduceCtorEq, ↓reduceIte]
      · have : knownT l i s = true := by
          cases hq : knownT l i s with
          | true => rfl
          | false => exact absurd h4 (knownT_false.1 hq k (by omega))
        rw [this]
      · exact ⟨k + 1, ⟨by omega, upto_iff.2 ⟨hno, h4⟩⟩, by omega, Weak.mk (by simp (disch := omega) only [go_sem, seval, reduceCtorEq, ↓reduceIte])⟩
    · have : k = i := by omega
      subst this
      rw [knownT_false.2 hno]
def dimsOf (l : List Typ) : Int := if l.length = 0 then 0 else ((nth l 0).cap.length : Int)
theorem dims10_c (l : List Typ) (c : Bool) (hl : l.length ≤ 1048576) : ACalls Tryz.prog 24 [.p (.list c (l.map eTyp))] [] fun x H' => x = .p (.int .i64 (dimsOf l)) ∧ H' = [] := by
  refine acalls_pure (fn := Tryz.f24) Tryz.func24 rfl isF24 ?_
  simp (disch := omega) only [Tryz.f24, go_sem, seval, reduceCtorEq, ↓reduceIte]
  refine acond_b (fun h => ?_) (fun h => ?_) <;> (try simp only [decide_eq_true_eq, decide_eq_false_iff_not] at h) <;> simp (disch := omega) only [Sh.out h, go_sem, seval, reduceCtorEq, ↓reduceIte]
  · have : l.length = 0 := by omega
    simp [dimsOf, this]
  · have h0 : 0 < l.length := by omega
    have h1 : l.length ≠ 0 := by omega
    simp (disch := first | omega | (simp only [List.length_cons, List.length_nil, List.length_append, List.length_map, List.length_take, List.length_drop] <;> omega)) only [dimsOf, h1, go_sem, seval, reduceCtorEq, ↓reduceIte]
def typO (t : Typ) : AM.Obj := .cells [.p (.str t.name), .p (.int .i64 t.count), .p (.int .i64 t.src), .p (.int .i64 t.dst), .p (.list t.cap_c (t.cap.map eI)), .p (.int .i64 t.skills), .p (.int .i64 t.prof), .p (.int .i64 t.opn), .p (.int .i64 t.cls), .p (.int .i64 t.drive), .p (.int .i64 t.rest), .p (.int .i64 t.fixed), .p (.int .i64 t.perMile), .p (.int .i64 t.perTick)]
def typOk (n : Net) (l : List Typ) (i : Nat) : Prop := ((((((((nameOk (nth l i).name = true) ∧ (∀ j, j < i → (nth l j).name ≠ (nth l i).name)) ∧ rng (nth l i).count 0 10 = true) ∧ (rng (nth l i).src 0 (n.places.length - 1) = true ∧ rng (nth l i).dst 0 (n.places.length - 1) = true)) ∧ capOk (nth l i).cap (dimsOf l) = true) ∧ rng (nth l i).skills 0 1073741823 = true) ∧ (rng (nth l i).opn 0 (nth l i).cls = true ∧ (nth l i).cls ≤ 4096)) ∧ (rng (nth l i).drive 1 4096 = true ∧ rng (nth l i).rest 0 4096 = true)) ∧ (rng (nth l i).prof 0 7 = true ∧ rng (nth l i).fixed 0 100000 = true ∧ rng (nth l i).perMile 0 100 = true ∧ rng (nth l i).perTick 0 100 = true)
theorem rules10_c (n : Net) (l : List Typ) (c : Bool) (i : Nat) (hi : i < l.length) (hl : l.length ≤ 1048576) (hw : n.wf 1048576) (ht : (nth l i).wf 1048576) :
    ACalls Tryz.prog 41 [.p (eNet n), .p (.list c (l.map eTyp)), .p (.int .i64 (i : Nat))] [] fun x H' => ∃ m : List Int, FR (fun _ => True) (typOk n l i) 9 m ∧ x = .sl 0 0 m.length m.length ∧ H' = [.elems 1 (m.map eI)] := by
  obtain ⟨w1, w2, w3, w4⟩ := hw
  refine acalls_freshE [3] (fn := Tryz.f41) Tryz.func41 rfl isF41 ?_
  simp (disch := omega) only [Tryz.f41, go_sem, seval, reduceCtorEq, ↓reduceIte]
  have hty : typOk n l i ↔ ((((((((nameOk (nth l i).name = true) ∧ (∀ j, j < i → (nth l j).name ≠ (nth l i).name)) ∧ rng (nth l i).count 0 10 = true) ∧ (rng (nth l i).src 0 (n.places.length - 1) = true ∧ rng (nth l i).dst 0 (n.places.length - 1) = true)) ∧ capOk (nth l i).cap (dimsOf l) = true) ∧ rng (nth l i).skills 0 1073741823 = true) ∧ (rng (nth l i).opn 0 (nth l i).cls = true ∧ (nth l i).cls ≤ 4096)) ∧ (rng (nth l i).drive 1 4096 = true ∧ rng (nth l i).rest 0 4096 = true)) ∧ (rng (nth l i).prof 0 7 = true ∧ rng (nth l i).fixed 0 100000 = true ∧ rng (nth l i).perMile 0 100 = true ∧ rng (nth l i).perTick 0 100 = true) := Iff.rfl
  generalize hga : nth l i = t at ht hty ⊢
  have hname := ht.1
  have hcap := ht.2.2.2.2.1
  refine awp_weak (Weak.ofNil 8 1 (by simp (disch := omega) only [go_sem, seval, reduceCtorEq, ↓reduceIte]) (by simp) (Weak.refl _ _ _)) ?_
  refine awp_join [1, 2, 3, 7] (fun m : List Int => [(8, .sl 2 0 m.length m.length)]) (fun m => netH n ++ [typO t, .elems 1 (m.map eI)]) (fun m => FR (fun _ => True) (nameOk t.name = true) 1 m) ?_ ?_
  · simp (disch := omega) only [go_sem, seval, reduceCtorEq, ↓reduceIte]
    refine (name_c t.name hname).use ?_
    simp (disch := omega) only [go_sem, seval, reduceCtorEq, ↓reduceIte]
    refine acond_b (fun h0 => ?_) (fun h0 => ?_) <;> (try simp only [decide_eq_true_eq, decide_eq_false_iff_not] at h0) <;> simp (disch := omega) only [Sh.out h0, go_sem, seval, reduceCtorEq, ↓reduceIte]
    · simp only [Bool.not_eq_true'] at h0
      exact ⟨[5], ⟨by simp, by simp [h0], by simp⟩, Weak.mk (by simp (disch := omega) only [netH, typO, go_sem, seval, reduceCtorEq, ↓reduceIte])⟩
    · simp only [Bool.not_eq_false'] at h0
      exact ⟨[], FR.nil (by simp [h0]), Weak.mk (by simp (disch := omega) only [netH, typO, go_sem, seval, reduceCtorEq, ↓reduceIte])⟩
  · skip
    intro m hm
    refine awp_sound [5] _ _ _ _ ?_
    simp (disch := omega) only [netH, typO, go_sem, seval, reduceCtorEq, ↓reduceIte]
    have hml := hm.len
    refine awp_join [1, 3, 7] (fun m : List Int => [(8, .sl 2 0 m.length m.length)]) (fun m => netH n ++ [typO t, .elems 1 (m.map eI)]) (fun m => FR (fun _ => True) ((nameOk t.name = true) ∧ (∀ j, j < i → (nth l j).name ≠ t.name)) 2 m) ?_ ?_
    · simp (disch := omega) only [go_sem, seval, reduceCtorEq, ↓reduceIte]
      refine (known10_c l c i t.name (by omega) hl).use ?_
      simp (disch := omega) only [go_sem, seval, reduceCtorEq, ↓reduceIte]
      refine acond_b (fun h => ?_) (fun h => ?_) <;> (try simp only [decide_eq_true_eq, decide_eq_false_iff_not] at h) <;> simp (disch := omega) only [Sh.out h, go_sem, seval, reduceCtorEq, ↓reduceIte]
      · exact ⟨m ++ [6], hm.yes (by rw [← knownT_false, h]; simp) trivial, Weak.mk (by simp (disch := omega) only [netH, typO, go_sem, seval, reduceCtorEq, ↓reduceIte])⟩
      · exact ⟨m, hm.no (by exact knownT_false.1 h), Weak.mk (by simp (disch := omega) only [netH, typO, go_sem, seval, reduceCtorEq, ↓reduceIte])⟩
    · clear hm hml
      intro m hm
      refine awp_sound [7] _ _ _ _ ?_
      simp (disch := omega) only [netH, typO, go_sem, seval, reduceCtorEq, ↓reduceIte]
      have hml := hm.len
      refine awp_join [1, 3, 7] (fun m : List Int => [(8, .sl 2 0 m.length m.length)]) (fun m => netH n ++ [typO t, .elems 1 (m.map eI)]) (fun m => FR (fun _ => True) (((nameOk t.name = true) ∧ (∀ j, j < i → (nth l j).name ≠ t.name)) ∧ rng t.count 0 10 = true) 3 m) ?_ ?_
      · simp (disch := omega) only [go_sem, seval, reduceCtorEq, ↓reduceIte]
        refine (in10_c t.count 0 10).use ?_
        simp (disch := omega) only [go_sem, seval, reduceCtorEq, ↓reduceIte]
        refine acond_b (fun h0 => ?_) (fun h0 => ?_) <;> (try simp only [decide_eq_true_eq, decide_eq_false_iff_not] at h0) <;> simp (disch := omega) only [Sh.out h0, go_sem, seval, reduceCtorEq, ↓reduceIte]
        · simp only [Bool.not_eq_true'] at h0
          exact ⟨m ++ [22], hm.yes (by simp [h0]) trivial, Weak.mk (by simp (disch := omega) only [netH, typO, go_sem, seval, reduceCtorEq, ↓reduceIte])⟩
        · simp only [Bool.not_eq_false'] at h0
          exact ⟨m, hm.no (by simp [h0]), Weak.mk (by simp (disch := omega) only [netH, typO, go_sem, seval, reduceCtorEq, ↓reduceIte])⟩
      · clear hm hml
        intro m hm
        refine awp_sound [9] _ _ _ _ ?_
        simp (disch := omega) only [netH, typO, go_sem, seval, reduceCtorEq, ↓reduceIte]
        have hml := hm.len
        refine awp_join [1, 7] (fun m : List Int => [(8, .sl 2 0 m.length m.length)]) (fun m => netH n ++ [typO t, .elems 1 (m.map eI)]) (fun m => FR (fun _ => True) ((((nameOk t.name = true) ∧ (∀ j, j < i → (nth l j).name ≠ t.name)) ∧ rng t.count 0 10 = true) ∧ (rng t.src 0 (n.places.length - 1) = true ∧ rng t.dst 0 (n.places.length - 1) = true)) 4 m) ?_ ?_
        · simp (disch := omega) only [go_sem, seval, reduceCtorEq, ↓reduceIte]
          refine (in10_c t.src 0 (n.places.length - 1)).use ?_
          simp (disch := omega) only [go_sem, seval, reduceCtorEq, ↓reduceIte]
          refine aguard_f (fun h0 => ?_) (fun h0 => ?_) <;> (try simp only [decide_eq_true_eq, decide_eq_false_iff_not] at h0) <;> simp (disch := omega) only [Sh.out h0, go_sem, seval, reduceCtorEq, ↓reduceIte]
          · simp only [Bool.not_eq_true'] at h0
            exact ⟨m ++ [11], hm.yes (by simp [h0]) trivial, Weak.mk (by simp (disch := omega) only [netH, typO, go_sem, seval, reduceCtorEq, ↓reduceIte])⟩
          · simp only [Bool.not_eq_false'] at h0
            refine (in10_c t.dst 0 (n.places.length - 1)).use ?_
            simp (disch := omega) only [go_sem, seval, reduceCtorEq, ↓reduceIte]
            refine acond_b (fun h1 => ?_) (fun h1 => ?_) <;> (try simp only [decide_eq_true_eq, decide_eq_false_iff_not] at h1) <;> simp (disch := omega) only [Sh.out h1, go_sem, seval, reduceCtorEq, ↓reduceIte]
            · simp only [Bool.not_eq_true'] at h1
              exact ⟨m ++ [11], hm.yes (by simp [h1]) trivial, Weak.mk (by simp (disch := omega) only [netH, typO, go_sem, seval, reduceCtorEq, ↓reduceIte])⟩
            · simp only [Bool.not_eq_false'] at h1
              exact ⟨m, hm.no (by simp [h0, h1]), Weak.mk (by simp (disch := omega) only [netH, typO, go_sem, seval, reduceCtorEq, ↓reduceIte])⟩
        · clear hm hml
          intro m hm
          refine awp_sound [11] _ _ _ _ ?_
          simp (disch := omega) only [netH, typO, go_sem, seval, reduceCtorEq, ↓reduceIte]
          have hml := hm.len
          refine awp_join [7] (fun m : List Int => [(8, .sl 2 0 m.length m.length)]) (fun m => netH n ++ [typO t, .elems 1 (m.map eI)]) (fun m => FR (fun _ => True) (((((nameOk t.name = true) ∧ (∀ j, j < i → (nth l j).name ≠ t.name)) ∧ rng t.count 0 10 = true) ∧ (rng t.src 0 (n.places.length - 1) = true ∧ rng t.dst 0 (n.places.length - 1) = true)) ∧ capOk t.cap (dimsOf l) = true) 5 m) ?_ ?_
          · simp (disch := omega) only [go_sem, seval, reduceCtorEq, ↓reduceIte]
            refine awp_drawnA mixed (by kernel_rfl) (by kernel_rfl) ?_
            simp (disch := omega) only [go_sem, seval, reduceCtorEq, ↓reduceIte]
            refine exq_call (dims10_c l c hl) ?_
            simp (disch := omega) only [go_sem, seval, reduceCtorEq, ↓reduceIte]
            refine exq_call (capacity_c t.cap t.cap_c (dimsOf l) hcap) ?_
            simp (disch := omega) only [go_sem, seval, reduceCtorEq, ↓reduceIte]
            refine acond_b (fun h => ?_) (fun h => ?_) <;> (try simp only [decide_eq_true_eq, decide_eq_false_iff_not] at h) <;> simp (disch := omega) only [Sh.out h, go_sem, seval, reduceCtorEq, ↓reduceIte]
            · simp only [Bool.not_eq_true'] at h
              exact ⟨m ++ [17], hm.yes (by simp [h]) trivial, Weak.mk (by simp (disch := omega) only [netH, typO, go_sem, seval, reduceCtorEq, ↓reduceIte])⟩
            · simp only [Bool.not_eq_false'] at h
              exact ⟨m, hm.no (by simp [h]), Weak.mk (by simp (disch := omega) only [netH, typO, go_sem, seval, reduceCtorEq, ↓reduceIte])⟩
          · clear hm hml
            intro m hm
            refine awp_sound [13] _ _ _ _ ?_
            simp (disch := omega) only [netH, typO, go_sem, seval, reduceCtorEq, ↓reduceIte]
            have hml := hm.len
            refine awp_join [7] (fun m : List Int => [(8, .sl 2 0 m.length m.length)]) (fun m => netH n ++ [typO t, .elems 1 (m.map eI)]) (fun m => FR (fun _ => True) ((((((nameOk t.name = true) ∧ (∀ j, j < i → (nth l j).name ≠ t.name)) ∧ rng t.count 0 10 = true) ∧ (rng t.src 0 (n.places.length - 1) = true ∧ rng t.dst 0 (n.places.length - 1) = true)) ∧ capOk t.cap (dimsOf l) = true) ∧ rng t.skills 0 1073741823 = true) 6 m) ?_ ?_
            · simp (disch := omega) only [go_sem, seval, reduceCtorEq, ↓reduceIte]
              refine (in10_c t.skills 0 1073741823).use ?_
              simp (disch := omega) only [go_sem, seval, reduceCtorEq, ↓reduceIte]
              refine acond_b (fun h0 => ?_) (fun h0 => ?_) <;> (try simp only [decide_eq_true_eq, decide_eq_false_iff_not] at h0) <;> simp (disch := omega) only [Sh.out h0, go_sem, seval, reduceCtorEq, ↓reduceIte]
              · simp only [Bool.not_eq_true'] at h0
                exact ⟨m ++ [18], hm.yes (by simp [h0]) trivial, Weak.mk (by simp (disch := omega) only [netH, typO, go_sem, seval, reduceCtorEq, ↓reduceIte])⟩
              · simp only [Bool.not_eq_false'] at h0
                exact ⟨m, hm.no (by simp [h0]), Weak.mk (by simp (disch := omega) only [netH, typO, go_sem, seval, reduceCtorEq, ↓reduceIte])⟩
            · clear hm hml
              intro m hm
              refine awp_sound [15] _ _ _ _ ?_
              simp (disch := omega) only [netH, typO, go_sem, seval, reduceCtorEq, ↓reduceIte]
              have hml := hm.len
              refine awp_join [7] (fun m : List Int => [(8, .sl 2 0 m.length m.length)]) (fun m => netH n ++ [typO t, .elems 1 (m.map eI)]) (fun m => FR (fun _ => True) (((((((nameOk t.name = true) ∧ (∀ j, j < i → (nth l j).name ≠ t.name)) ∧ rng t.count 0 10 = true) ∧ (rng t.src 0 (n.places.length - 1) = true ∧ rng t.dst 0 (n.places.length - 1) = true)) ∧ capOk t.cap (dimsOf l) = true) ∧ rng t.skills 0 1073741823 = true) ∧ (rng t.opn 0 t.cls = true ∧ t.cls ≤ 4096)) 7 m) ?_ ?_
              · simp (disch := omega) only [go_sem, seval, reduceCtorEq, ↓reduceIte]
                refine (in10_c t.opn 0 t.cls).use ?_
                simp (disch := omega) only [go_sem, seval, reduceCtorEq, ↓reduceIte]
                refine aguard_f (fun h0 => ?_) (fun h0 => ?_) <;> (try simp only [decide_eq_true_eq, decide_eq_false_iff_not] at h0) <;> simp (disch := omega) only [Sh.out h0, go_sem, seval, reduceCtorEq, ↓reduceIte]
                · simp only [Bool.not_eq_true'] at h0
                  exact ⟨m ++ [15], hm.yes (by simp [h0]) trivial, Weak.mk (by simp (disch := omega) only [netH, typO, go_sem, seval, reduceCtorEq, ↓reduceIte])⟩
                · simp only [Bool.not_eq_false'] at h0
                  refine acond_b (fun h1 => ?_) (fun h1 => ?_) <;> (try simp only [decide_eq_true_eq, decide_eq_false_iff_not] at h1) <;> simp (disch := omega) only [Sh.out h1, go_sem, seval, reduceCtorEq, ↓reduceIte]
                  · exact ⟨m ++ [15], hm.yes (by omega) trivial, Weak.mk (by simp (disch := omega) only [netH, typO, go_sem, seval, reduceCtorEq, ↓reduceIte])⟩
                  · exact ⟨m, hm.no (by exact ⟨h0, by omega⟩), Weak.mk (by simp (disch := omega) only [netH, typO, go_sem, seval, reduceCtorEq, ↓reduceIte])⟩
              · clear hm hml
                intro m hm
                refine awp_sound [17] _ _ _ _ ?_
                simp (disch := omega) only [netH, typO, go_sem, seval, reduceCtorEq, ↓reduceIte]
                have hml := hm.len
                refine awp_join [7] (fun m : List Int => [(8, .sl 2 0 m.length m.length)]) (fun m => netH n ++ [typO t, .elems 1 (m.map eI)]) (fun m => FR (fun _ => True) ((((((((nameOk t.name = true) ∧ (∀ j, j < i → (nth l j).name ≠ t.name)) ∧ rng t.count 0 10 = true) ∧ (rng t.src 0 (n.places.length - 1) = true ∧ rng t.dst 0 (n.places.length - 1) = true)) ∧ capOk t.cap (dimsOf l) = true) ∧ rng t.skills 0 1073741823 = true) ∧ (rng t.opn 0 t.cls = true ∧ t.cls ≤ 4096)) ∧ (rng t.drive 1 4096 = true ∧ rng t.rest 0 4096 = true)) 8 m) ?_ ?_
                · simp (disch := omega) only [go_sem, seval, reduceCtorEq, ↓reduceIte]
                  refine (in10_c t.drive 1 4096).use ?_
                  simp (disch := omega) only [go_sem, seval, reduceCtorEq, ↓reduceIte]
                  refine aguard_f (fun h0 => ?_) (fun h0 => ?_) <;> (try simp only [decide_eq_true_eq, decide_eq_false_iff_not] at h0) <;> simp (disch := omega) only [Sh.out h0, go_sem, seval, reduceCtorEq, ↓reduceIte]
                  · simp only [Bool.not_eq_true'] at h0
                    exact ⟨m ++ [16], hm.yes (by simp [h0]) trivial, Weak.mk (by simp (disch := omega) only [netH, typO, go_sem, seval, reduceCtorEq, ↓reduceIte])⟩
                  · simp only [Bool.not_eq_false'] at h0
                    refine (in10_c t.rest 0 4096).use ?_
                    simp (disch := omega) only [go_sem, seval, reduceCtorEq, ↓reduceIte]
                    refine acond_b (fun h1 => ?_) (fun h1 => ?_) <;> (try simp only [decide_eq_true_eq, decide_eq_false_iff_not] at h1) <;> simp (disch := omega) only [Sh.out h1, go_sem, seval, reduceCtorEq, ↓reduceIte]
                    · simp only [Bool.not_eq_true'] at h1
                      exact ⟨m ++ [16], hm.yes (by simp [h1]) trivial, Weak.mk (by simp (disch := omega) only [netH, typO, go_sem, seval, reduceCtorEq, ↓reduceIte])⟩
                    · simp only [Bool.not_eq_false'] at h1
                      exact ⟨m, hm.no (by simp [h0, h1]), Weak.mk (by simp (disch := omega) only [netH, typO, go_sem, seval, reduceCtorEq, ↓reduceIte])⟩
                · clear hm hml
                  intro m hm
                  refine awp_sound [19] _ _ _ _ ?_
                  simp (disch := omega) only [netH, typO, go_sem, seval, reduceCtorEq, ↓reduceIte]
                  have hml := hm.len
                  refine awp_join [] (fun m : List Int => [(8, .sl 2 0 m.length m.length)]) (fun m => netH n ++ [typO t, .elems 1 (m.map eI)]) (fun m => FR (fun _ => True) (((((((((nameOk t.name = true) ∧ (∀ j, j < i → (nth l j).name ≠ t.name)) ∧ rng t.count 0 10 = true) ∧ (rng t.src 0 (n.places.length - 1) = true ∧ rng t.dst 0 (n.places.length - 1) = true)) ∧ capOk t.cap (dimsOf l) = true) ∧ rng t.skills 0 1073741823 = true) ∧ (rng t.opn 0 t.cls = true ∧ t.cls ≤ 4096)) ∧ (rng t.drive 1 4096 = true ∧ rng t.rest 0 4096 = true)) ∧ (rng t.prof 0 7 = true ∧ rng t.fixed 0 100000 = true ∧ rng t.perMile 0 100 = true ∧ rng t.perTick 0 100 = true)) 9 m) ?_ ?_
                  · simp (disch := omega) only [go_sem, seval, reduceCtorEq, ↓reduceIte]
                    refine (in10_c t.prof 0 7).use ?_
                    simp (disch := omega) only [go_sem, seval, reduceCtorEq, ↓reduceIte]
                    refine aguard_f (fun h0 => ?_) (fun h0 => ?_) <;> (try simp only [decide_eq_true_eq, decide_eq_false_iff_not] at h0) <;> simp (disch := omega) only [Sh.out h0, go_sem, seval, reduceCtorEq, ↓reduceIte]
                    · simp only [Bool.not_eq_true'] at h0
                      exact ⟨m ++ [2], hm.yes (by simp [h0]) trivial, Weak.mk (by simp (disch := omega) only [netH, typO, go_sem, seval, reduceCtorEq, ↓reduceIte])⟩
                    · simp only [Bool.not_eq_false'] at h0
                      refine (in10_c t.fixed 0 100000).use ?_
                      simp (disch := omega) only [go_sem, seval, reduceCtorEq, ↓reduceIte]
                      refine aguard_f (fun h1 => ?_) (fun h1 => ?_) <;> (try simp only [decide_eq_true_eq, decide_eq_false_iff_not] at h1) <;> simp (disch := omega) only [Sh.out h1, go_sem, seval, reduceCtorEq, ↓reduceIte]
                      · simp only [Bool.not_eq_true'] at h1
                        exact ⟨m ++ [2], hm.yes (by simp [h1]) trivial, Weak.mk (by simp (disch := omega) only [netH, typO, go_sem, seval, reduceCtorEq, ↓reduceIte])⟩
                      · simp only [Bool.not_eq_false'] at h1
                        refine (in10_c t.perMile 0 100).use ?_
                        simp (disch := omega) only [go_sem, seval, reduceCtorEq, ↓reduceIte]
                        refine aguard_f (fun h2 => ?_) (fun h2 => ?_) <;> (try simp only [decide_eq_true_eq, decide_eq_false_iff_not] at h2) <;> simp (disch := omega) only [Sh.out h2, go_sem, seval, reduceCtorEq, ↓reduceIte]
                        · simp only [Bool.not_eq_true'] at h2
                          exact ⟨m ++ [2], hm.yes (by simp [h2]) trivial, Weak.mk (by simp (disch := omega) only [netH, typO, go_sem, seval, reduceCtorEq, ↓reduceIte])⟩
                        · simp only [Bool.not_eq_false'] at h2
                          refine (in10_c t.perTick 0 100).use ?_
                          simp (disch := omega) only [go_sem, seval, reduceCtorEq, ↓reduceIte]
                          refine acond_b (fun h3 => ?_) (fun h3 => ?_) <;> (try simp only [decide_eq_true_eq, decide_eq_false_iff_not] at h3) <;> simp (disch := omega) only [Sh.out h3, go_sem, seval, reduceCtorEq, ↓reduceIte]
                          · simp only [Bool.not_eq_true'] at h3
                            exact ⟨m ++ [2], hm.yes (by simp [h3]) trivial, Weak.mk (by simp (disch := omega) only [netH, typO, go_sem, seval, reduceCtorEq, ↓reduceIte])⟩
                          · simp only [Bool.not_eq_false'] at h3
                            exact ⟨m, hm.no (by simp [h0, h1, h2, h3]), Weak.mk (by simp (disch := omega) only [netH, typO, go_sem, seval, reduceCtorEq, ↓reduceIte])⟩
                  · clear hm hml
                    intro m hm
                    refine awp_sound [] _ _ _ _ ?_
                    simp (disch := omega) only [netH, typO, go_sem, seval, reduceCtorEq, ↓reduceIte]
                    have hml := hm.len
                    exact ⟨m, hm.to (by omega) (by rw [hty]), 2, by simp (disch := omega) only [netH, typO, go_sem, seval, reduceCtorEq, ↓reduceIte]⟩
end Go.Proofs.YtccjopdlbolnhaaGreat.K
set_option linter.unusedVariables false
set_option linter.unusedSimpArgs false
namespace Go.Proofs.YtccjopdlbolnhaaGreat.K
open Go Go.AM Go.Proofs
set_option maxRecDepth 8000
set_option maxHeartbeats 16000000
def typesOk (n : Net) (l : List Typ) : Prop := rng l.length 1 6 = true ∧ ∀ i, i < l.length → typOk n l i
theorem ck10_c (n : Net) (l : List Typ) (c : Bool) (hw : n.wf 1048576) (hl : l.length ≤ 1048576) (hlw : ∀ t ∈ l, t.wf 1048576) :
    ACalls Tryz.prog 22 [.p (eNet n), .p (.list c (l.map eTyp))] [] fun x H' => ∃ m : List Flt, FR (pF 20) (typesOk n l) (1 + 9 * l.length) m ∧ x = .sl 0 0 m.length m.length ∧ H' = [.elems 2 (m.map eF)] := by
  refine acalls_freshE [2] (fn := Tryz.f22) Tryz.func22 rfl isF22 ?_
  simp (disch := omega) only [Tryz.f22, go_sem, seval, reduceCtorEq, ↓reduceIte]
  refine awp_weak (Weak.ofNil 5 2 (by simp (disch := omega) only [go_sem, seval, reduceCtorEq, ↓reduceIte]) (by simp) (Weak.refl _ _ _)) ?_
  refine awp_join [1, 2] (fun m : List Flt => [(5, .sl 1 0 m.length m.length)]) (fun m => netH n ++ [.elems 2 (m.map eF)]) (fun m => FR (pF 20) (rng l.length 1 6 = true) 1 m) ?_ ?_
  · simp (disch := omega) only [go_sem, seval, reduceCtorEq, ↓reduceIte]
    refine (in10_c l.length 1 6).use ?_
    simp (disch := omega) only [go_sem, seval, reduceCtorEq, ↓reduceIte]
    refine acond_b (fun h => ?_) (fun h => ?_) <;> (try simp only [decide_eq_true_eq, decide_eq_false_iff_not] at h) <;> simp (disch := omega) only [Sh.out h, go_sem, seval, reduceCtorEq, ↓reduceIte]
    · simp only [Bool.not_eq_true'] at h
      exact ⟨[(4, [])], ⟨by simp, by simp [h], by simp [pF]⟩, Weak.mk (by simp (disch := omega) only [netH, go_sem, seval, reduceCtorEq, ↓reduceIte])⟩
    · simp only [Bool.not_eq_false'] at h
      exact ⟨[], FR.nil h, Weak.mk (by simp (disch := omega) only [netH, go_sem, seval, reduceCtorEq, ↓reduceIte])⟩
  · intro m hm
    refine awp_sound [] _ _ _ _ ?_
    simp (disch := omega) only [netH, go_sem, seval, reduceCtorEq, ↓reduceIte]
    refine awp_for [1, 2] (fun q : Nat × List Flt => [(5, .sl 1 0 q.2.length q.2.length), (6, .p (.int .i64 q.1))]) (fun q => netH n ++ [.elems 2 (q.2.map eF)]) (fun q => q.1 ≤ l.length ∧ FR (pF 20) (rng l.length 1 6 = true ∧ ∀ j, j < q.1 → typOk n l j) (1 + 9 * q.1) q.2) (fun q => l.length - q.1) (0, m) ⟨by simp, hm.to (by simp) (by simp)⟩ (Weak.mk ?_) ?_
    · simp (disch := omega) only [netH, go_sem, seval, reduceCtorEq, ↓reduceIte]
    · clear hm
      rintro ⟨k, m⟩ ⟨hk, hm⟩
      simp only at hk hm
      have hml := hm.len
      simp (disch := omega) only [netH, go_sem, seval, reduceCtorEq, ↓reduceIte]
      refine acond_b (fun h => ?_) (fun h => ?_) <;> (try simp only [decide_eq_true_eq, decide_eq_false_iff_not] at h) <;> simp (disch := omega) only [Sh.out h, go_sem, seval, reduceCtorEq, ↓reduceIte]
      · have hk2 : k < l.length := by omega
        have hI : I64 (k : Int) := by omega
        have hdl := decI_len k hI
        refine ((rules10_c n l c k hk2 hl hw (hlw _ (nth_mem hk2))).frozenE).useV fun e he => ?_
        simp (disch := omega) only [go_sem, seval, reduceCtorEq, ↓reduceIte]
        have hel := he.len
        refine awp_for [1, 2, 6, 7] (fun q : Nat × List Flt => [(5, .sl 1 0 q.2.length q.2.length), (8, .p (.int .i64 q.1))]) (fun q => netH n ++ [.elems 2 (q.2.map eF)]) (fun q => q.1 ≤ e.length ∧ FR (pF 20) ((rng l.length 1 6 = true ∧ ∀ j, j < k → typOk n l j) ∧ q.1 = 0) (1 + 9 * k + q.1) q.2) (fun q => e.length - q.1) (0, m) ⟨by simp, hm.to (by simp) (by simp)⟩ (Weak.mk ?_) ?_
        · simp (disch := omega) only [netH, go_sem, seval, reduceCtorEq, ↓reduceIte]
        · clear hm hml
          rintro ⟨j, m⟩ ⟨hj, hm⟩
          simp only at hj hm
          have hml := hm.len
          simp (disch := omega) only [netH, go_sem, seval, reduceCtorEq, ↓reduceIte]
          refine acond_b (fun h2 => ?_) (fun h2 => ?_) <;> (try simp only [decide_eq_true_eq, decide_eq_false_iff_not] at h2) <;> simp (disch := omega) only [Sh.out h2, go_sem, seval, reduceCtorEq, ↓reduceIte]
          · have hj2 : j < e.length := by omega
            refine awp_drawnS 9 mixed (by kernel_rfl) (by kernel_rfl) ?_
            simp (disch := omega) only [go_sem, seval, reduceCtorEq, ↓reduceIte]
            refine exq_call (dec01_c k hI) ?_
            simp (disch := omega) only [go_sem, seval, reduceCtorEq, ↓reduceIte]
            exact ⟨(j + 1, m ++ [(nth e j, decI k)]), ⟨by simp only; omega, (hm.yes (c := False) (by simp) (by simpa [pF] using hdl)).to (by simp only; omega) (by simp)⟩, by simp only; omega, Weak.mk (by simp (disch := omega) only [netH, go_sem, seval, reduceCtorEq, ↓reduceIte])⟩
          · have hjl : j = e.length := by omega
            subst hjl
            exact ⟨(k + 1, m), ⟨by simp only; omega, hm.to (by simp only; omega) (by simp only [upto_iff, and_assoc]; rw [← he.emp, List.eq_nil_iff_length_eq_zero])⟩, by simp only; omega, Weak.mk (by simp (disch := omega) only [netH, go_sem, seval, reduceCtorEq, ↓reduceIte])⟩
      · have hkn : k = l.length := by omega
        subst hkn
        exact ⟨m, hm.to (by omega) (by rw [typesOk]), 1, by simp (disch := omega) only [netH, go_sem, seval, reduceCtorEq, ↓reduceIte]⟩
end Go.Proofs.YtccjopdlbolnhaaGreat.K
set_option linter.unusedVariables false
set_option linter.unusedSimpArgs false
namespace Go.Proofs.YtccjopdlbolnhaaGreat.K
open Go Go.AM Go.Proofs
set_option maxRecDepth 8000
set_option maxHeartbeats 16000000
theorem in11_c (n lo hi : Int) : ACalls Tryz.prog 67 [.p (.int .i64 n), .p (.int .i64 lo), .p (.int .i64 hi)] [] fun x H' => x = .p (.bool (rng n lo hi)) ∧ H' = [] := by
  refine acalls_pure (fn := Tryz.f67) Tryz.func67 rfl isF67 ?_
  simp (disch := omega) only [Tryz.f67, go_sem, seval, reduceCtorEq, ↓reduceIte]
  refine aguard_t (fun h => ?_) (fun h => ?_) <;> (try simp only [decide_eq_true_eq, decide_eq_false_iff_not] at h) <;> simp (disch := omega) only [Sh.out h, go_sem, seval, reduceCtorEq, ↓reduceIte]
  all_goals (simp [rng]; first | done | omega | (rw [Bool.eq_iff_iff]; simp; omega))
def loadOk (l : List Int) (d : Int) : Bool := decide ((l.length : Int) = d) && l.all fun n => rng n 0 1000
theorem right06_c (l : List Int) (c : Bool) (d : Int) (hl : l.length ≤ 1048576) : ACalls Tryz.prog 66 [.p (.list c (l.map eI)), .p (.int .i64 d)] [] fun x H' => x = .p (.bool (loadOk l d)) ∧ H' = [] := by
  refine acalls_pure (fn := Tryz.f66) Tryz.func66 rfl isF66 ?_
  simp (disch := omega) only [Tryz.f66, go_sem, seval, reduceCtorEq, ↓reduceIte]
  refine acond_b (fun h2 => ?_) (fun h2 => ?_) <;> (try simp only [decide_eq_true_eq, decide_eq_false_iff_not] at h2) <;> simp (disch := omega) only [Sh.out h2, go_sem, seval, reduceCtorEq, ↓reduceIte]
  · simp [loadOk, h2]
  · simp only [Classical.not_not] at h2
    subst h2
    refine awp_for [0] (fun k : Nat => [(5, .p (.int .i64 k))]) (fun _ => []) (fun k => k ≤ l.length ∧ ∀ j, j < k → rng (nth l j) 0 1000 = true) (fun k => l.length - k) 0 (by simp) (Weak.mk ?_) ?_
    · simp (disch := omega) only [go_sem, seval, reduceCtorEq, ↓reduceIte]
    · rintro k ⟨hk, hno⟩
      simp (disch := omega) only [go_sem, seval, reduceCtorEq, ↓reduceIte]
      refine acond_b (fun h3 => ?_) (fun h3 => ?_) <;> (try simp only [decide_eq_true_eq, decide_eq_false_iff_not] at h3) <;> simp (disch := omega) only [Sh.out h3, go_sem, seval, reduceCtorEq, ↓reduceIte]
      · have hk2 : k < l.length := by omega
        have hbad : rng (nth l k) 0 1000 = false → loadOk l l.length = false := fun h4 => by
          have : l.all (fun n => rng n 0 1000) = false := by
            rw [List.all_eq_false]; exact ⟨nth l k, nth_mem hk2, by rw [h4]; simp⟩
          simp [loadOk, this]
        repeat' (first | (refine aguard_t (fun hq => ?_) (fun hq => ?_) <;> (try simp only [decide_eq_true_eq, decide_eq_false_iff_not, Classical.not_not] at hq) <;> simp (disch := omega) only [Sh.out hq, go_sem, seval, reduceCtorEq, ↓reduceIte]) | (refine aguard_f (fun hq => ?_) (fun hq => ?_) <;> (try simp only [decide_eq_true_eq, decide_eq_false_iff_not, Classical.not_not] at hq) <;> simp (disch := omega) only [Sh.out hq, go_sem, seval, reduceCtorEq, ↓reduceIte]) | (refine acond_b (fun hq => ?_) (fun hq => ?_) <;> (try simp only [decide_eq_true_eq, decide_eq_false_iff_not, Classical.not_not] at hq) <;> simp (disch := omega) only [Sh.out hq, go_sem, seval, reduceCtorEq, ↓reduceIte]))
        all_goals first
          | (rw [hbad (by simp [rng]; omega)])
          | exact ⟨k + 1, ⟨by omega, upto_iff.2 ⟨hno, by simp [rng]; omega⟩⟩, by omega, Weak.mk (by simp (disch := omega) only [go_sem, seval, reduceCtorEq, ↓reduceIte])⟩
      · have : l.all (fun n => rng n 0 1000) = true := by
          rw [List.all_eq_true]
          intro x hx
          obtain ⟨j, hj, rfl⟩ := List.mem_iff_getElem.1 hx
          rw [← nth_get hj]; exact hno j (by omega)
        simp [loadOk, this]
def stpOk (s : Stp) : Bool := decide ((s.place = -1 ∧ s.opn = 0 ∧ s.cls = 0 ∧ s.serv = 0) ∨ (0 ≤ s.place ∧ 0 ≤ s.opn ∧ s.opn ≤ s.cls ∧ s.cls ≤ 4096 ∧ 0 ≤ s.serv ∧ s.serv ≤ 4096))
def stpE (s : Stp) : Int := if stpOk s = true then 0 else 2
theorem ck08_c (s : Stp) : ACalls Tryz.prog 68 [.p (eStp s)] [] fun x H' => x = .p (.int .i64 (stpE s)) ∧ H' = [] := by
  refine acalls_pure (fn := Tryz.f68) Tryz.func68 rfl isF68 ?_
  simp (disch := omega) only [Tryz.f68, go_sem, seval, reduceCtorEq, ↓reduceIte]
  repeat' (first | (refine aguard_t (fun hq => ?_) (fun hq => ?_) <;> (try simp only [decide_eq_true_eq, decide_eq_false_iff_not, Classical.not_not] at hq) <;> simp (disch := omega) only [Sh.out hq, go_sem, seval, reduceCtorEq, ↓reduceIte]) | (refine aguard_f (fun hq => ?_) (fun hq => ?_) <;> (try simp only [decide_eq_true_eq, decide_eq_false_iff_not, Classical.not_not] at hq) <;> simp (disch := omega) only [Sh.out hq, go_sem, seval, reduceCtorEq, ↓reduceIte]) | (refine acond_b (fun hq => ?_) (fun hq => ?_) <;> (try simp only [decide_eq_true_eq, decide_eq_false_iff_not, Classical.not_not] at hq) <;> simp (disch := omega) only [Sh.out hq, go_sem, seval, reduceCtorEq, ↓reduceIte]))
  all_goals (simp only [stpE, stpOk, decide_eq_true_eq])
  all_goals first
    | (exfalso; omega)
    | (rw [if_pos (by omega)])
    | (rw [if_neg (by omega)])
def noTwin (l : List Ord) (i : Nat) : Bool := (List.range i).all fun j => decide ((nth l j).name ≠ (nth l i).name)
theorem noTwin_true {l : List Ord} {i : Nat} : noTwin l i = true ↔ ∀ j, j < i → (nth l j).name ≠ (nth l i).name := by simp [noTwin]
/-- nothing, or a code -/
def sel (b : Bool) (e : Int) : List Int := if b = true then [] else [e]
theorem sel_len (b : Bool) (e : Int) : (sel b e).length ≤ 1 := by unfold sel; split <;> simp
theorem sel_yes {b : Bool} {e : Int} {m p : List Int} (h : m = p) (hb : b = true) : m = p ++ sel b e := by simp [sel, hb, h]
theorem sel_no {b : Bool} {e : Int} {m p : List Int} (h : m = p) (hb : b = false) : m ++ [e] = p ++ sel b e := by simp [sel, hb, h]
def ordO (t : Ord) : AM.Obj := .cells [.p (.str t.name), .p (.list t.load_c (t.load.map eI)), .p (.int .i64 t.pick.place), .p (.int .i64 t.pick.opn), .p (.int .i64 t.pick.cls), .p (.int .i64 t.pick.serv), .p (.int .i64 t.drp.place), .p (.int .i64 t.drp.opn), .p (.int .i64 t.drp.cls), .p (.int .i64 t.drp.serv), .p (.int .i64 t.skills), .p (.int .i64 t.penalty), .p (.int .i64 t.split), .p (.int .i64 t.last), .p (.int .i64 t.now), .p (.bool t.off)]
def both11 (t : Ord) : Bool := decide (t.pick.place ≠ -1) && decide (t.drp.place ≠ -1)
def argOk (t : Ord) (ty : Int) : Bool := rng t.penalty (-1) 1000000 && rng t.split 1 4 && decide (¬ (1 < t.split ∧ both11 t = true) ∧ -1 ≤ t.last ∧ t.last < ty ∧ -1 ≤ t.now ∧ t.now < ty)
def ordRules (np : Nat) (d ty : Int) (l : List Ord) (i : Nat) : List Int := sel (nameOk (nth l i).name) 5 ++ sel (noTwin l i) 6 ++ sel (loadOk (nth l i).load d) 17 ++ sel ((rng (nth l i).pick.place (-1) ((np : Int) - 1) && rng (nth l i).drp.place (-1) ((np : Int) - 1))) 11 ++ sel (decide (¬ ((nth l i).pick.place = -1 ∧ (nth l i).drp.place = -1))) 19 ++ sel ((stpOk (nth l i).pick && stpOk (nth l i).drp)) 14 ++ sel (rng (nth l i).skills 0 1073741823) 18 ++ sel (argOk (nth l i) ty) 2
theorem ordRules_len (np : Nat) (d ty : Int) (l : List Ord) (i : Nat) : (ordRules np d ty l i).length ≤ 8 := by
  have h := sel_len
  simp only [ordRules, List.length_append]
  have h1 := fun b => h b 5
  have h2 := fun b => h b 6
  have h3 := fun b => h b 17
  have h4 := fun b => h b 11
  have h5 := fun b => h b 19
  have h6 := fun b => h b 14
  have h7 := fun b => h b 18
  have h8 := fun b => h b 2
  have a1 := h1 (nameOk (nth l i).name)
  have a2 := h2 (noTwin l i)
  have a3 := h3 (loadOk (nth l i).load d)
  have a4 := h4 (rng (nth l i).pick.place (-1) ((np : Int) - 1) && rng (nth l i).drp.place (-1) ((np : Int) - 1))
  have a5 := h5 (decide (¬ ((nth l i).pick.place = -1 ∧ (nth l i).drp.place = -1)))
  have a6 := h6 (stpOk (nth l i).pick && stpOk (nth l i).drp)
  have a7 := h7 (rng (nth l i).skills 0 1073741823)
  have a8 := h8 (argOk (nth l i) ty)
  omega
theorem rules11_c (np : Nat) (d ty : Int) (l : List Ord) (c : Bool) (i : Nat) (hi : i < l.length) (hl : l.length ≤ 1048576) (hnp : np ≤ 1048576) (ht : (nth l i).wf 1048576) :
    ACalls Tryz.prog 43 [.p (.int .i64 (np : Nat)), .p (.int .i64 d), .p (.int .i64 ty), .p (.list c (l.map eOrd)), .p (.int .i64 (i : Nat))] [] fun x H' => x = .sl 0 0 (ordRules np d ty l i).length (ordRules np d ty l i).length ∧ H' = [.elems 1 ((ordRules np d ty l i).map eI)] := by
  suffices hh : ACalls Tryz.prog 43 [.p (.int .i64 (np : Nat)), .p (.int .i64 d), .p (.int .i64 ty), .p (.list c (l.map eOrd)), .p (.int .i64 (i : Nat))] [] fun x H' => ∃ m : List Int, m = ordRules np d ty l i ∧ x = .sl 0 0 m.length m.length ∧ H' = [.elems 1 (m.map eI)] by
    refine hh.mono ?_
    rintro x H' ⟨m, rfl, h1, h2⟩
    exact ⟨h1, h2⟩
  refine acalls_freshE [3] (fn := Tryz.f43) Tryz.func43 rfl isF43 ?_
  simp (disch := omega) only [Tryz.f43, go_sem, seval, reduceCtorEq, ↓reduceIte]
  have hty : ordRules np d ty l i = sel (nameOk (nth l i).name) 5 ++ sel (noTwin l i) 6 ++ sel (loadOk (nth l i).load d) 17 ++ sel ((rng (nth l i).pick.place (-1) ((np : Int) - 1) && rng (nth l i).drp.place (-1) ((np : Int) - 1))) 11 ++ sel (decide (¬ ((nth l i).pick.place = -1 ∧ (nth l i).drp.place = -1))) 19 ++ sel ((stpOk (nth l i).pick && stpOk (nth l i).drp)) 14 ++ sel (rng (nth l i).skills 0 1073741823) 18 ++ sel (argOk (nth l i) ty) 2 := rfl
  have hleng : ∀ m : List Int, ∀ p : List Int, m = p → p.length ≤ 8 → m.length ≤ 8 := fun m p h1 h2 => by rw [h1]; exact h2
  generalize hga : nth l i = t at ht hty ⊢
  have hname := ht.1
  have hload := ht.2.1
  refine awp_weak (Weak.ofNil 11 1 (by simp (disch := omega) only [go_sem, seval, reduceCtorEq, ↓reduceIte]) (by simp) (Weak.refl _ _ _)) ?_
  refine awp_join [0, 1, 2, 3, 4, 12] (fun m : List Int => [(11, .sl 1 0 m.length m.length)]) (fun m => [ordO t, .elems 1 (m.map eI)]) (fun m => m = sel (nameOk t.name) 5) ?_ ?_
  · simp (disch := omega) only [go_sem, seval, reduceCtorEq, ↓reduceIte]
    refine (name_c t.name hname).use ?_
    simp (disch := omega) only [go_sem, seval, reduceCtorEq, ↓reduceIte]
    refine acond_b (fun h => ?_) (fun h => ?_) <;> (try simp only [decide_eq_true_eq, decide_eq_false_iff_not] at h) <;> simp (disch := omega) only [Sh.out h, go_sem, seval, reduceCtorEq, ↓reduceIte]
    · simp only [Bool.not_eq_true'] at h
      exact ⟨[5], by simp [sel, h], Weak.mk (by simp (disch := omega) only [ordO, go_sem, seval, reduceCtorEq, ↓reduceIte])⟩
    · simp only [Bool.not_eq_false'] at h
      exact ⟨[], by simp [sel, h], Weak.mk (by simp (disch := omega) only [ordO, go_sem, seval, reduceCtorEq, ↓reduceIte])⟩
  · skip
    intro m hm
    refine awp_sound [5] _ _ _ _ ?_
    simp (disch := omega) only [ordO, go_sem, seval, reduceCtorEq, ↓reduceIte]
    have hml : m.length ≤ 8 := by
      rw [hm]
      try simp only [List.length_append]
      have h := sel_len
      have a0 := h (nameOk t.name) 5
      omega
    refine awp_join [0, 1, 2, 12] (fun m : List Int => [(11, .sl 1 0 m.length m.length)]) (fun m => [ordO t, .elems 1 (m.map eI)]) (fun m => m = sel (nameOk t.name) 5 ++ sel (noTwin l i) 6) ?_ ?_
    · simp (disch := omega) only [go_sem, seval, reduceCtorEq, ↓reduceIte]
      refine awp_for [0, 1, 2, 3, 4, 11, 12] (fun k : Nat => [(13, .p (.int .i64 k))]) (fun _ => [ordO t, .elems 1 (m.map eI)]) (fun k => k ≤ i ∧ ∀ j, j < k → (nth l j).name ≠ (nth l i).name) (fun k => i - k) 0 (by simp) (Weak.mk ?_) ?_
      · simp (disch := omega) only [ordO, go_sem, seval, reduceCtorEq, ↓reduceIte]
      · rintro k ⟨hk, hno⟩
        simp (disch := omega) only [ordO, go_sem, seval, reduceCtorEq, ↓reduceIte]
        refine acond_b (fun h3 => ?_) (fun h3 => ?_) <;> (try simp only [decide_eq_true_eq, decide_eq_false_iff_not] at h3) <;> simp (disch := omega) only [Sh.out h3, go_sem, seval, reduceCtorEq, ↓reduceIte]
        · have hk2 : k < l.length := by omega
          refine awp_drawnA mixed (by kernel_rfl) (by kernel_rfl) ?_
          simp (disch := omega) only [go_sem, seval, reduceCtorEq, ↓reduceIte]
          refine acond_b (fun h4 => ?_) (fun h4 => ?_) <;> (try simp only [decide_eq_true_eq, decide_eq_false_iff_not] at h4) <;> simp (disch := omega) only [Sh.out h4, go_sem, seval, reduceCtorEq, ↓reduceIte]
          · exact ⟨m ++ [6], sel_no hm (by cases hq : noTwin l i with | false => rfl | true => exact absurd (by rw [hga]; exact h4) (noTwin_true.1 hq k (by omega))), Weak.mk (by simp (disch := omega) only [ordO, go_sem, seval, reduceCtorEq, ↓reduceIte])⟩
          · exact ⟨k + 1, ⟨by omega, upto_iff.2 ⟨hno, by rw [hga]; exact h4⟩⟩, by omega, Weak.mk (by simp (disch := omega) only [ordO, go_sem, seval, reduceCtorEq, ↓reduceIte])⟩
        · have hki : k = i := by omega
          subst hki
          exact ⟨m, sel_yes hm (noTwin_true.2 hno), Weak.mk (by simp (disch := omega) only [ordO, go_sem, seval, reduceCtorEq, ↓reduceIte])⟩
    · clear hm hml
      intro m hm
      refine awp_sound [10] _ _ _ _ ?_
      simp (disch := omega) only [ordO, go_sem, seval, reduceCtorEq, ↓reduceIte]
      have hml : m.length ≤ 8 := by
        rw [hm]
        try simp only [List.length_append]
        have h := sel_len
        have a0 := h (nameOk t.name) 5
        have a1 := h (noTwin l i) 6
        omega
      refine awp_join [0, 2, 12] (fun m : List Int => [(11, .sl 1 0 m.length m.length)]) (fun m => [ordO t, .elems 1 (m.map eI)]) (fun m => m = sel (nameOk t.name) 5 ++ sel (noTwin l i) 6 ++ sel (loadOk t.load d) 17) ?_ ?_
      · simp (disch := omega) only [go_sem, seval, reduceCtorEq, ↓reduceIte]
        refine (right06_c t.load t.load_c d hload).use ?_
        simp (disch := omega) only [go_sem, seval, reduceCtorEq, ↓reduceIte]
        refine acond_b (fun h => ?_) (fun h => ?_) <;> (try simp only [decide_eq_true_eq, decide_eq_false_iff_not] at h) <;> simp (disch := omega) only [Sh.out h, go_sem, seval, reduceCtorEq, ↓reduceIte]
        · simp only [Bool.not_eq_true'] at h
          exact ⟨m ++ [17], sel_no hm (h), Weak.mk (by simp (disch := omega) only [ordO, go_sem, seval, reduceCtorEq, ↓reduceIte])⟩
        · simp only [Bool.not_eq_false'] at h
          exact ⟨m, sel_yes hm (h), Weak.mk (by simp (disch := omega) only [ordO, go_sem, seval, reduceCtorEq, ↓reduceIte])⟩
      · clear hm hml
        intro m hm
        refine awp_sound [12] _ _ _ _ ?_
        simp (disch := omega) only [ordO, go_sem, seval, reduceCtorEq, ↓reduceIte]
        have hml : m.length ≤ 8 := by
          rw [hm]
          try simp only [List.length_append]
          have h := sel_len
          have a0 := h (nameOk t.name) 5
          have a1 := h (noTwin l i) 6
          have a2 := h (loadOk t.load d) 17
          omega
        refine awp_join [2, 12] (fun m : List Int => [(11, .sl 1 0 m.length m.length)]) (fun m => [ordO t, .elems 1 (m.map eI)]) (fun m => m = sel (nameOk t.name) 5 ++ sel (noTwin l i) 6 ++ sel (loadOk t.load d) 17 ++ sel ((rng t.pick.place (-1) ((np : Int) - 1) && rng t.drp.place (-1) ((np : Int) - 1))) 11) ?_ ?_
        · simp (disch := omega) only [go_sem, seval, reduceCtorEq, ↓reduceIte]
          refine (in11_c t.pick.place (-1) ((np : Int) - 1)).use ?_
          simp (disch := omega) only [go_sem, seval, reduceCtorEq, ↓reduceIte]
          refine aguard_f (fun h => ?_) (fun h => ?_) <;> (try simp only [decide_eq_true_eq, decide_eq_false_iff_not] at h) <;> simp (disch := omega) only [Sh.out h, go_sem, seval, reduceCtorEq, ↓reduceIte]
          · simp only [Bool.not_eq_true'] at h
            exact ⟨m ++ [11], sel_no hm (by simp [h]), Weak.mk (by simp (disch := omega) only [ordO, go_sem, seval, reduceCtorEq, ↓reduceIte])⟩
          · simp only [Bool.not_eq_false'] at h
            refine (in11_c t.drp.place (-1) ((np : Int) - 1)).use ?_
            simp (disch := omega) only [go_sem, seval, reduceCtorEq, ↓reduceIte]
            refine acond_b (fun h2 => ?_) (fun h2 => ?_) <;> (try simp only [decide_eq_true_eq, decide_eq_false_iff_not] at h2) <;> simp (disch := omega) only [Sh.out h2, go_sem, seval, reduceCtorEq, ↓reduceIte]
            · simp only [Bool.not_eq_true'] at h2
              exact ⟨m ++ [11], sel_no hm (by simp [h2]), Weak.mk (by simp (disch := omega) only [ordO, go_sem, seval, reduceCtorEq, ↓reduceIte])⟩
            · simp only [Bool.not_eq_false'] at h2
              exact ⟨m, sel_yes hm (by simp [h, h2]), Weak.mk (by simp (disch := omega) only [ordO, go_sem, seval, reduceCtorEq, ↓reduceIte])⟩
        · clear hm hml
          intro m hm
          refine awp_sound [14] _ _ _ _ ?_
          simp (disch := omega) only [ordO, go_sem, seval, reduceCtorEq, ↓reduceIte]
          have hml : m.length ≤ 8 := by
            rw [hm]
            try simp only [List.length_append]
            have h := sel_len
            have a0 := h (nameOk t.name) 5
            have a1 := h (noTwin l i) 6
            have a2 := h (loadOk t.load d) 17
            have a3 := h ((rng t.pick.place (-1) ((np : Int) - 1) && rng t.drp.place (-1) ((np : Int) - 1))) 11
            omega
          refine awp_join [2, 12] (fun m : List Int => [(11, .sl 1 0 m.length m.length)]) (fun m => [ordO t, .elems 1 (m.map eI)]) (fun m => m = sel (nameOk t.name) 5 ++ sel (noTwin l i) 6 ++ sel (loadOk t.load d) 17 ++ sel ((rng t.pick.place (-1) ((np : Int) - 1) && rng t.drp.place (-1) ((np : Int) - 1))) 11 ++ sel (decide (¬ (t.pick.place = -1 ∧ t.drp.place = -1))) 19) ?_ ?_
          · simp (disch := omega) only [go_sem, seval, reduceCtorEq, ↓reduceIte]
            repeat' (first | (refine aguard_t (fun hq => ?_) (fun hq => ?_) <;> (try simp only [decide_eq_true_eq, decide_eq_false_iff_not, Classical.not_not] at hq) <;> simp (disch := omega) only [Sh.out hq, go_sem, seval, reduceCtorEq, ↓reduceIte]) | (refine aguard_f (fun hq => ?_) (fun hq => ?_) <;> (try simp only [decide_eq_true_eq, decide_eq_false_iff_not, Classical.not_not] at hq) <;> simp (disch := omega) only [Sh.out hq, go_sem, seval, reduceCtorEq, ↓reduceIte]) | (refine acond_b (fun hq => ?_) (fun hq => ?_) <;> (try simp only [decide_eq_true_eq, decide_eq_false_iff_not, Classical.not_not] at hq) <;> simp (disch := omega) only [Sh.out hq, go_sem, seval, reduceCtorEq, ↓reduceIte]))
            all_goals first
              | exact ⟨m ++ [19], sel_no hm (by first | (simp; done) | (simp; omega)), Weak.mk (by simp (disch := omega) only [ordO, go_sem, seval, reduceCtorEq, ↓reduceIte])⟩
              | exact ⟨m, sel_yes hm (by first | (simp; done) | (simp; omega)), Weak.mk (by simp (disch := omega) only [ordO, go_sem, seval, reduceCtorEq, ↓reduceIte])⟩
          · clear hm hml
            intro m hm
            refine awp_sound [16] _ _ _ _ ?_
            simp (disch := omega) only [ordO, go_sem, seval, reduceCtorEq, ↓reduceIte]
            have hml : m.length ≤ 8 := by
              rw [hm]
              try simp only [List.length_append]
              have h := sel_len
              have a0 := h (nameOk t.name) 5
              have a1 := h (noTwin l i) 6
              have a2 := h (loadOk t.load d) 17
              have a3 := h ((rng t.pick.place (-1) ((np : Int) - 1) && rng t.drp.place (-1) ((np : Int) - 1))) 11
              have a4 := h (decide (¬ (t.pick.place = -1 ∧ t.drp.place = -1))) 19
              omega
            refine awp_join [2, 12] (fun m : List Int => [(11, .sl 1 0 m.length m.length)]) (fun m => [ordO t, .elems 1 (m.map eI)]) (fun m => m = sel (nameOk t.name) 5 ++ sel (noTwin l i) 6 ++ sel (loadOk t.load d) 17 ++ sel ((rng t.pick.place (-1) ((np : Int) - 1) && rng t.drp.place (-1) ((np : Int) - 1))) 11 ++ sel (decide (¬ (t.pick.place = -1 ∧ t.drp.place = -1))) 19 ++ sel ((stpOk t.pick && stpOk t.drp)) 14) ?_ ?_
            · simp (disch := omega) only [go_sem, seval, reduceCtorEq, ↓reduceIte]
              refine (ck08_c t.pick).use ?_
              simp (disch := omega) only [go_sem, seval, reduceCtorEq, ↓reduceIte]
              cases h : stpOk t.pick with
              | false =>
                simp (disch := omega) only [stpE, h, go_sem, seval, reduceCtorEq, ↓reduceIte]
                exact ⟨m ++ [14], sel_no hm (by simp [h]), Weak.mk (by simp (disch := omega) only [ordO, go_sem, seval, reduceCtorEq, ↓reduceIte])⟩
              | true =>
                simp (disch := omega) only [stpE, h, go_sem, seval, reduceCtorEq, ↓reduceIte]
                refine (ck08_c t.drp).use ?_
                simp (disch := omega) only [go_sem, seval, reduceCtorEq, ↓reduceIte]
                cases h2 : stpOk t.drp with
                | false =>
                  simp (disch := omega) only [stpE, h2, go_sem, seval, reduceCtorEq, ↓reduceIte]
                  exact ⟨m ++ [14], sel_no hm (by simp [h2]), Weak.mk (by simp (disch := omega) only [ordO, go_sem, seval, reduceCtorEq, ↓reduceIte])⟩
                | true =>
                  simp (disch := omega) only [stpE, h2, go_sem, seval, reduceCtorEq, ↓reduceIte]
                  exact ⟨m, sel_yes hm (by simp [h, h2]), Weak.mk (by simp (disch := omega) only [ordO, go_sem, seval, reduceCtorEq, ↓reduceIte])⟩
            · clear hm hml
              intro m hm
              refine awp_sound [18] _ _ _ _ ?_
              simp (disch := omega) only [ordO, go_sem, seval, reduceCtorEq, ↓reduceIte]
              have hml : m.length ≤ 8 := by
                rw [hm]
                try simp only [List.length_append]
                have h := sel_len
                have a0 := h (nameOk t.name) 5
                have a1 := h (noTwin l i) 6
                have a2 := h (loadOk t.load d) 17
                have a3 := h ((rng t.pick.place (-1) ((np : Int) - 1) && rng t.drp.place (-1) ((np : Int) - 1))) 11
                have a4 := h (decide (¬ (t.pick.place = -1 ∧ t.drp.place = -1))) 19
                have a5 := h ((stpOk t.pick && stpOk t.drp)) 14
                omega
              refine awp_join [2, 12] (fun m : List Int => [(11, .sl 1 0 m.length m.length)]) (fun m => [ordO t, .elems 1 (m.map eI)]) (fun m => m = sel (nameOk t.name) 5 ++ sel (noTwin l i) 6 ++ sel (loadOk t.load d) 17 ++ sel ((rng t.pick.place (-1) ((np : Int) - 1) && rng t.drp.place (-1) ((np : Int) - 1))) 11 ++ sel (decide (¬ (t.pick.place = -1 ∧ t.drp.place = -1))) 19 ++ sel ((stpOk t.pick && stpOk t.drp)) 14 ++ sel (rng t.skills 0 1073741823) 18) ?_ ?_
              · simp (disch := omega) only [go_sem, seval, reduceCtorEq, ↓reduceIte]
                refine (in11_c t.skills 0 1073741823).use ?_
                simp (disch := omega) only [go_sem, seval, reduceCtorEq, ↓reduceIte]
                refine acond_b (fun h => ?_) (fun h => ?_) <;> (try simp only [decide_eq_true_eq, decide_eq_false_iff_not] at h) <;> simp (disch := omega) only [Sh.out h, go_sem, seval, reduceCtorEq, ↓reduceIte]
                · simp only [Bool.not_eq_true'] at h
                  exact ⟨m ++ [18], sel_no hm (h), Weak.mk (by simp (disch := omega) only [ordO, go_sem, seval, reduceCtorEq, ↓reduceIte])⟩
                · simp only [Bool.not_eq_false'] at h
                  exact ⟨m, sel_yes hm (h), Weak.mk (by simp (disch := omega) only [ordO, go_sem, seval, reduceCtorEq, ↓reduceIte])⟩
              · clear hm hml
                intro m hm
                refine awp_sound [20] _ _ _ _ ?_
                simp (disch := omega) only [ordO, go_sem, seval, reduceCtorEq, ↓reduceIte]
                have hml : m.length ≤ 8 := by
                  rw [hm]
                  try simp only [List.length_append]
                  have h := sel_len
                  have a0 := h (nameOk t.name) 5
                  have a1 := h (noTwin l i) 6
                  have a2 := h (loadOk t.load d) 17
                  have a3 := h ((rng t.pick.place (-1) ((np : Int) - 1) && rng t.drp.place (-1) ((np : Int) - 1))) 11
                  have a4 := h (decide (¬ (t.pick.place = -1 ∧ t.drp.place = -1))) 19
                  have a5 := h ((stpOk t.pick && stpOk t.drp)) 14
                  have a6 := h (rng t.skills 0 1073741823) 18
                  omega
                refine awp_join [2, 11, 12] (fun b : Bool => [(14, .p (.bool b))]) (fun _ => [ordO t, .elems 1 (m.map eI)]) (fun b => b = both11 t) ?_ ?_
                · simp (disch := omega) only [go_sem, seval, reduceCtorEq, ↓reduceIte]
                  repeat' (first | (refine aguard_t (fun hq => ?_) (fun hq => ?_) <;> (try simp only [decide_eq_true_eq, decide_eq_false_iff_not, Classical.not_not] at hq) <;> simp (disch := omega) only [Sh.out hq, go_sem, seval, reduceCtorEq, ↓reduceIte]) | (refine aguard_f (fun hq => ?_) (fun hq => ?_) <;> (try simp only [decide_eq_true_eq, decide_eq_false_iff_not, Classical.not_not] at hq) <;> simp (disch := omega) only [Sh.out hq, go_sem, seval, reduceCtorEq, ↓reduceIte]) | (refine acond_b (fun hq => ?_) (fun hq => ?_) <;> (try simp only [decide_eq_true_eq, decide_eq_false_iff_not, Classical.not_not] at hq) <;> simp (disch := omega) only [Sh.out hq, go_sem, seval, reduceCtorEq, ↓reduceIte]))
                  all_goals refine ⟨both11 t, rfl, Weak.mk ?_⟩
                  all_goals (simp (disch := omega) only [ordO, go_sem, seval, reduceCtorEq, ↓reduceIte]; simp [both11, *])
                · rintro b hb
                  refine awp_sound [21] _ _ _ _ ?_
                  simp (disch := omega) only [ordO, go_sem, seval, reduceCtorEq, ↓reduceIte]
                  refine awp_join [] (fun m : List Int => [(11, .sl 1 0 m.length m.length)]) (fun m => [ordO t, .elems 1 (m.map eI)]) (fun m => m = sel (nameOk t.name) 5 ++ sel (noTwin l i) 6 ++ sel (loadOk t.load d) 17 ++ sel ((rng t.pick.place (-1) ((np : Int) - 1) && rng t.drp.place (-1) ((np : Int) - 1))) 11 ++ sel (decide (¬ (t.pick.place = -1 ∧ t.drp.place = -1))) 19 ++ sel ((stpOk t.pick && stpOk t.drp)) 14 ++ sel (rng t.skills 0 1073741823) 18 ++ sel (argOk t ty) 2) ?_ ?_
                  · simp (disch := omega) only [go_sem, seval, reduceCtorEq, ↓reduceIte]
                    refine (in11_c t.penalty (-1) 1000000).use ?_
                    simp (disch := omega) only [go_sem, seval, reduceCtorEq, ↓reduceIte]
                    refine aguard_f (fun h => ?_) (fun h => ?_) <;> (try simp only [decide_eq_true_eq, decide_eq_false_iff_not] at h) <;> simp (disch := omega) only [Sh.out h, go_sem, seval, reduceCtorEq, ↓reduceIte]
                    · simp only [Bool.not_eq_true'] at h
                      exact ⟨m ++ [2], sel_no hm (by simp [argOk, h]), Weak.mk (by simp (disch := omega) only [ordO, go_sem, seval, reduceCtorEq, ↓reduceIte])⟩
                    · simp only [Bool.not_eq_false'] at h
                      refine (in11_c t.split 1 4).use ?_
                      simp (disch := omega) only [go_sem, seval, reduceCtorEq, ↓reduceIte]
                      refine aguard_f (fun h2 => ?_) (fun h2 => ?_) <;> (try simp only [decide_eq_true_eq, decide_eq_false_iff_not] at h2) <;> simp (disch := omega) only [Sh.out h2, go_sem, seval, reduceCtorEq, ↓reduceIte]
                      · simp only [Bool.not_eq_true'] at h2
                        exact ⟨m ++ [2], sel_no hm (by simp [argOk, h2]), Weak.mk (by simp (disch := omega) only [ordO, go_sem, seval, reduceCtorEq, ↓reduceIte])⟩
                      · simp only [Bool.not_eq_false'] at h2
                        cases b with
                        | true =>
                          repeat' (first | (refine aguard_t (fun hq => ?_) (fun hq => ?_) <;> (try simp only [decide_eq_true_eq, decide_eq_false_iff_not, Classical.not_not] at hq) <;> simp (disch := omega) only [Sh.out hq, go_sem, seval, reduceCtorEq, ↓reduceIte]) | (refine aguard_f (fun hq => ?_) (fun hq => ?_) <;> (try simp only [decide_eq_true_eq, decide_eq_false_iff_not, Classical.not_not] at hq) <;> simp (disch := omega) only [Sh.out hq, go_sem, seval, reduceCtorEq, ↓reduceIte]) | (refine acond_b (fun hq => ?_) (fun hq => ?_) <;> (try simp only [decide_eq_true_eq, decide_eq_false_iff_not, Classical.not_not] at hq) <;> simp (disch := omega) only [Sh.out hq, go_sem, seval, reduceCtorEq, ↓reduceIte]))
                          all_goals first
                            | exact ⟨m ++ [2], sel_no hm (by rw [argOk, ← hb]; first | (simp; done) | (simp; omega)), Weak.mk (by simp (disch := omega) only [ordO, go_sem, seval, reduceCtorEq, ↓reduceIte])⟩
                            | exact ⟨m, sel_yes hm (by rw [argOk, ← hb, h, h2]; first | (simp; done) | (simp; omega)), Weak.mk (by simp (disch := omega) only [ordO, go_sem, seval, reduceCtorEq, ↓reduceIte])⟩
                        | false =>
                          repeat' (first | (refine aguard_t (fun hq => ?_) (fun hq => ?_) <;> (try simp only [decide_eq_true_eq, decide_eq_false_iff_not, Classical.not_not] at hq) <;> simp (disch := omega) only [Sh.out hq, go_sem, seval, reduceCtorEq, ↓reduceIte]) | (refine aguard_f (fun hq => ?_) (fun hq => ?_) <;> (try simp only [decide_eq_true_eq, decide_eq_false_iff_not, Classical.not_not] at hq) <;> simp (disch := omega) only [Sh.out hq, go_sem, seval, reduceCtorEq, ↓reduceIte]) | (refine acond_b (fun hq => ?_) (fun hq => ?_) <;> (try simp only [decide_eq_true_eq, decide_eq_false_iff_not, Classical.not_not] at hq) <;> simp (disch := omega) only [Sh.out hq, go_sem, seval, reduceCtorEq, ↓reduceIte]))
                          all_goals first
                            | exact ⟨m ++ [2], sel_no hm (by rw [argOk, ← hb]; first | (simp; done) | (simp; omega)), Weak.mk (by simp (disch := omega) only [ordO, go_sem, seval, reduceCtorEq, ↓reduceIte])⟩
                            | exact ⟨m, sel_yes hm (by rw [argOk, ← hb, h, h2]; first | (simp; done) | (simp; omega)), Weak.mk (by simp (disch := omega) only [ordO, go_sem, seval, reduceCtorEq, ↓reduceIte])⟩
                  · clear hm hml
                    intro m hm
                    refine awp_sound [] _ _ _ _ ?_
                    simp (disch := omega) only [ordO, go_sem, seval, reduceCtorEq, ↓reduceIte]
                    have hml : m.length ≤ 8 := by
                      rw [hm]
                      try simp only [List.length_append]
                      have h := sel_len
                      have a0 := h (nameOk t.name) 5
                      have a1 := h (noTwin l i) 6
                      have a2 := h (loadOk t.load d) 17
                      have a3 := h ((rng t.pick.place (-1) ((np : Int) - 1) && rng t.drp.place (-1) ((np : Int) - 1))) 11
                      have a4 := h (decide (¬ (t.pick.place = -1 ∧ t.drp.place = -1))) 19
                      have a5 := h ((stpOk t.pick && stpOk t.drp)) 14
                      have a6 := h (rng t.skills 0 1073741823) 18
                      have a7 := h (argOk t ty) 2
                      omega
                    exact ⟨m, by rw [hm, hty], 1, by simp (disch := omega) only [ordO, go_sem, seval, reduceCtorEq, ↓reduceIte]⟩
def ordersF (np : Nat) (d ty : Int) (l : List Ord) (k : Nat) : List Flt := (if l.length ≤ 10 then [] else [(4, [])]) ++ (List.range k).flatMap fun i => (ordRules np d ty l i).map fun e => (e, decI i)
theorem ordersF_succ (np : Nat) (d ty : Int) (l : List Ord) (k : Nat) : ordersF np d ty l (k + 1) = ordersF np d ty l k ++ (ordRules np d ty l k).map fun e => (e, decI k) := by
  simp [ordersF, List.range_succ]
theorem ordersF_len (np : Nat) (d ty : Int) (l : List Ord) : ∀ k, (ordersF np d ty l k).length ≤ 1 + 8 * k
  | 0 => by simp [ordersF]; split <;> simp
  | k + 1 => by
    have h1 := ordersF_len np d ty l k
    have h2 := ordRules_len np d ty l k
    rw [ordersF_succ]
    simp
    omega
end Go.Proofs.YtccjopdlbolnhaaGreat.K
