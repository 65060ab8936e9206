/- The types of the program's interface, as structures; printed by tools/genapi.py. -/
import Derived.Test.YtlbhefiehkmhjaaG
import Derived.Test.YtlbhefiehkmhjaaF
set_option linter.unusedVariables false
set_option linter.unusedSimpArgs false
namespace Go.Proofs.Ytlbhefiehkmhjaa.K
open Go Go.AM Go.Proofs

abbrev I64 (n : Int) : Prop := -9223372036854775808 ≤ n ∧ n ≤ 9223372036854775807
def eI (n : Int) : PV := .int .i64 n
def eB (b : Bool) : PV := .bool b
def eS (s : List UInt8) : PV := .str s
def eP (p : Int × Int) : PV := .agg [.int .i64 p.1, .int .i64 p.2]
@[go_sem] theorem eI_eq (n : Int) : eI n = .int .i64 n := Eq.trans rfl rfl
@[go_sem] theorem eB_eq (b : Bool) : eB b = .bool b := Eq.trans rfl rfl
@[go_sem] theorem eS_eq (s : List UInt8) : eS s = .str s := Eq.trans rfl rfl
@[go_sem] theorem eP_eq (p : Int × Int) : eP p = .agg [.int .i64 p.1, .int .i64 p.2] := Eq.trans rfl rfl
@[go_sem] theorem allS_eI (l : List Int) : allS 1 (l.map eI) = true := allS_map (f := eI) (S := 1) (fun _ => rfl) l
@[go_sem] theorem okE_eI (l : List Int) : okE 1 (l.map eI) = true := okE_map fun _ => rfl
@[go_sem] theorem allS_eB (l : List Bool) : allS 1 (l.map eB) = true := allS_map (f := eB) (S := 1) (fun _ => rfl) l
@[go_sem] theorem okE_eB (l : List Bool) : okE 1 (l.map eB) = true := okE_map fun _ => rfl
@[go_sem] theorem allS_eS (l : List (List UInt8)) : allS 1 (l.map eS) = true := allS_map (f := eS) (S := 1) (fun _ => rfl) l
@[go_sem] theorem okE_eS (l : List (List UInt8)) : okE 1 (l.map eS) = true := okE_map fun _ => rfl
@[go_sem] theorem allS_eP (l : List (Int × Int)) : allS 2 (l.map eP) = true := allS_map (f := eP) (S := 2) (fun _ => rfl) l
@[go_sem] theorem okE_eP (l : List (Int × Int)) : okE 2 (l.map eP) = true := okE_map fun _ => rfl

theorem fit_ints {B xs} (h : ∀ y ∈ xs, FitV Try.prog B 3 y) : ∃ l : List Int, xs = l.map eI ∧ ∀ n ∈ l, I64 n :=
  row_map (f := eI) fun y hy => by
    obtain ⟨n, rfl, w⟩ := fit_int Try.underlying3 (h y hy)
    exact ⟨n, rfl, i64_wf w⟩
theorem fit_bools {B xs} (h : ∀ y ∈ xs, FitV Try.prog B 4 y) : ∃ l : List Bool, xs = l.map eB ∧ ∀ b ∈ l, True :=
  row_map (f := eB) fun y hy => by
    obtain ⟨b, rfl⟩ := fit_bool Try.underlying4 (h y hy)
    exact ⟨b, rfl, trivial⟩
theorem fit_strs {B xs} (h : ∀ y ∈ xs, FitV Try.prog B 9 y) : ∃ l : List (List UInt8), xs = l.map eS ∧ ∀ s ∈ l, s.length ≤ B :=
  row_map (f := eS) fun y hy => by
    obtain ⟨s, rfl, w, _⟩ := fit_str Try.underlying9 (h y hy)
    exact ⟨s, rfl, w⟩

theorem len2 {α : Type} {l : List α} (h : l.length = 2) : ∃ a0 a1, l = [a0, a1] := by
  match l, h with | [a0, a1], _ => exact ⟨a0, a1, rfl⟩
theorem len6 {α : Type} {l : List α} (h : l.length = 6) : ∃ a0 a1 a2 a3 a4 a5, l = [a0, a1, a2, a3, a4, a5] := by
  match l, h with | [a0, a1, a2, a3, a4, a5], _ => exact ⟨a0, a1, a2, a3, a4, a5, rfl⟩
theorem len14 {α : Type} {l : List α} (h : l.length = 14) : ∃ a0 a1 a2 a3 a4 a5 a6 a7 a8 a9 a10 a11 a12 a13, l = [a0, a1, a2, a3, a4, a5, a6, a7, a8, a9, a10, a11, a12, a13] := by
  match l, h with | [a0, a1, a2, a3, a4, a5, a6, a7, a8, a9, a10, a11, a12, a13], _ => exact ⟨a0, a1, a2, a3, a4, a5, a6, a7, a8, a9, a10, a11, a12, a13, rfl⟩
theorem len4 {α : Type} {l : List α} (h : l.length = 4) : ∃ a0 a1 a2 a3, l = [a0, a1, a2, a3] := by
  match l, h with | [a0, a1, a2, a3], _ => exact ⟨a0, a1, a2, a3, rfl⟩
theorem len16 {α : Type} {l : List α} (h : l.length = 16) : ∃ a0 a1 a2 a3 a4 a5 a6 a7 a8 a9 a10 a11 a12 a13 a14 a15, l = [a0, a1, a2, a3, a4, a5, a6, a7, a8, a9, a10, a11, a12, a13, a14, a15] := by
  match l, h with | [a0, a1, a2, a3, a4, a5, a6, a7, a8, a9, a10, a11, a12, a13, a14, a15], _ => exact ⟨a0, a1, a2, a3, a4, a5, a6, a7, a8, a9, a10, a11, a12, a13, a14, a15, rfl⟩
theorem len7 {α : Type} {l : List α} (h : l.length = 7) : ∃ a0 a1 a2 a3 a4 a5 a6, l = [a0, a1, a2, a3, a4, a5, a6] := by
  match l, h with | [a0, a1, a2, a3, a4, a5, a6], _ => exact ⟨a0, a1, a2, a3, a4, a5, a6, rfl⟩
structure Pt where
  t : Int
  a : Int
  deriving Inhabited
def cPt (x : Pt) : List PV := [.int .i64 x.t, .int .i64 x.a]
def ePt (x : Pt) : PV := .agg [.int .i64 x.t, .int .i64 x.a]
@[go_sem] theorem ePt_eq (x : Pt) : ePt x = .agg [.int .i64 x.t, .int .i64 x.a] := Eq.trans rfl rfl
@[go_sem] theorem allS_ePt (l : List Pt) : allS 2 (l.map ePt) = true := allS_map (f := ePt) (S := 2) (fun _ => rfl) l
@[go_sem] theorem okE_ePt (l : List Pt) : okE 2 (l.map ePt) = true := okE_map fun _ => rfl
def Pt.wf (B : Nat) (x : Pt) : Prop := I64 x.t ∧ I64 x.a
theorem fits_Pt {B m cs} (h : fits Try.prog B m 162 cs) : ∃ x : Pt, cs = cPt x ∧ x.wf B := by
  obtain ⟨h1, m', h2⟩ := fits_agg pcs162 cel162 h
  obtain ⟨a0, a1, rfl⟩ := len2 h1
  obtain ⟨n0, e0, w0⟩ := fits_int Try.underlying3 (h2 (0, 3) (by simp))
  obtain ⟨n1, e1, w1⟩ := fits_int Try.underlying3 (h2 (1, 3) (by simp))
  simp [cel3] at e0 e1
  subst e0; subst e1
  exact ⟨⟨n0, n1⟩, rfl, i64_wf w0, i64_wf w1⟩
theorem fit_Pt {B v} (h : FitV Try.prog B 162 v) : ∃ x : Pt, v = ePt x ∧ x.wf B := by
  obtain ⟨k, cs, h, e⟩ := h.out
  obtain ⟨x, rfl, hw⟩ := fits_Pt h
  exact ⟨x, e.trans (by rw [mkEl, if_pos (pcs_tagg pcs162)]; rfl), hw⟩
structure Arc where
  src : Int
  dst : Int
  prof : Int
  miles : Int
  travel_c : Bool
  travel : List (Pt)
  slow_c : Bool
  slow : List (Pt)
  deriving Inhabited
def cArc (x : Arc) : List PV := [.int .i64 x.src, .int .i64 x.dst, .int .i64 x.prof, .int .i64 x.miles, .list x.travel_c (x.travel.map ePt), .list x.slow_c (x.slow.map ePt)]
def eArc (x : Arc) : PV := .agg [.int .i64 x.src, .int .i64 x.dst, .int .i64 x.prof, .int .i64 x.miles, .list x.travel_c (x.travel.map ePt), .list x.slow_c (x.slow.map ePt)]
@[go_sem] theorem eArc_eq (x : Arc) : eArc x = .agg [.int .i64 x.src, .int .i64 x.dst, .int .i64 x.prof, .int .i64 x.miles, .list x.travel_c (x.travel.map ePt), .list x.slow_c (x.slow.map ePt)] := Eq.trans rfl rfl
@[go_sem] theorem allS_eArc (l : List Arc) : allS 6 (l.map eArc) = true := allS_map (f := eArc) (S := 6) (fun _ => rfl) l
@[go_sem] theorem okE_eArc (l : List Arc) : okE 6 (l.map eArc) = true := okE_map fun _ => rfl
def Arc.wf (B : Nat) (x : Arc) : Prop := I64 x.src ∧ I64 x.dst ∧ I64 x.prof ∧ I64 x.miles ∧ x.travel.length ≤ B ∧ (∀ y ∈ x.travel, Pt.wf B y) ∧ x.slow.length ≤ B ∧ (∀ y ∈ x.slow, Pt.wf B y)
theorem fits_Arc {B m cs} (h : fits Try.prog B m 134 cs) : ∃ x : Arc, cs = cArc x ∧ x.wf B := by
  obtain ⟨h1, m', h2⟩ := fits_agg pcs134 cel134 h
  obtain ⟨a0, a1, a2, a3, a4, a5, rfl⟩ := len6 h1
  obtain ⟨n0, e0, w0⟩ := fits_int Try.underlying3 (h2 (0, 3) (by simp))
  obtain ⟨n1, e1, w1⟩ := fits_int Try.underlying3 (h2 (1, 3) (by simp))
  obtain ⟨n2, e2, w2⟩ := fits_int Try.underlying3 (h2 (2, 3) (by simp))
  obtain ⟨n3, e3, w3⟩ := fits_int Try.underlying3 (h2 (3, 3) (by simp))
  obtain ⟨y4, e4, w4, _, z4⟩ := fits_slice Try.underlying132 (h2 (4, 132) (by simp))
  obtain ⟨n4, rfl, u4⟩ := row_map (f := ePt) fun y hy => fit_Pt (z4 y hy)
  obtain ⟨y5, e5, w5, _, z5⟩ := fits_slice Try.underlying132 (h2 (5, 132) (by simp))
  obtain ⟨n5, rfl, u5⟩ := row_map (f := ePt) fun y hy => fit_Pt (z5 y hy)
  simp [cel132, cel3] at e0 e1 e2 e3 e4 e5
  subst e0; subst e1; subst e2; subst e3; subst e4; subst e5
  exact ⟨⟨n0, n1, n2, n3, false, n4, false, n5⟩, rfl, i64_wf w0, i64_wf w1, i64_wf w2, i64_wf w3, by simpa using w4, u4, by simpa using w5, u5⟩
theorem fit_Arc {B v} (h : FitV Try.prog B 134 v) : ∃ x : Arc, v = eArc x ∧ x.wf B := by
  obtain ⟨k, cs, h, e⟩ := h.out
  obtain ⟨x, rfl, hw⟩ := fits_Arc h
  exact ⟨x, e.trans (by rw [mkEl, if_pos (pcs_tagg pcs134)]; rfl), hw⟩
structure Net where
  places_c : Bool
  places : List (List UInt8)
  arcs_c : Bool
  arcs : List (Arc)
  deriving Inhabited
def cNet (x : Net) : List PV := [.list x.places_c (x.places.map eS), .list x.arcs_c (x.arcs.map eArc)]
def eNet (x : Net) : PV := .agg [.list x.places_c (x.places.map eS), .list x.arcs_c (x.arcs.map eArc)]
@[go_sem] theorem eNet_eq (x : Net) : eNet x = .agg [.list x.places_c (x.places.map eS), .list x.arcs_c (x.arcs.map eArc)] := Eq.trans rfl rfl
@[go_sem] theorem allS_eNet (l : List Net) : allS 2 (l.map eNet) = true := allS_map (f := eNet) (S := 2) (fun _ => rfl) l
@[go_sem] theorem okE_eNet (l : List Net) : okE 2 (l.map eNet) = true := okE_map fun _ => rfl
def Net.wf (B : Nat) (x : Net) : Prop := x.places.length ≤ B ∧ (∀ s ∈ x.places, s.length ≤ B) ∧ x.arcs.length ≤ B ∧ (∀ y ∈ x.arcs, Arc.wf B y)
theorem fits_Net {B m cs} (h : fits Try.prog B m 25 cs) : ∃ x : Net, cs = cNet x ∧ x.wf B := by
  obtain ⟨h1, m', h2⟩ := fits_agg pcs25 cel25 h
  obtain ⟨a0, a1, rfl⟩ := len2 h1
  obtain ⟨y0, e0, w0, _, z0⟩ := fits_slice Try.underlying22 (h2 (0, 22) (by simp))
  obtain ⟨n0, rfl, u0⟩ := fit_strs z0
  obtain ⟨y1, e1, w1, _, z1⟩ := fits_slice Try.underlying23 (h2 (1, 23) (by simp))
  obtain ⟨n1, rfl, u1⟩ := row_map (f := eArc) fun y hy => fit_Arc (z1 y hy)
  simp [cel23, cel22] at e0 e1
  subst e0; subst e1
  exact ⟨⟨false, n0, false, n1⟩, rfl, by simpa using w0, u0, by simpa using w1, u1⟩
theorem fit_Net {B v} (h : FitV Try.prog B 25 v) : ∃ x : Net, v = eNet x ∧ x.wf B := by
  obtain ⟨k, cs, h, e⟩ := h.out
  obtain ⟨x, rfl, hw⟩ := fits_Net h
  exact ⟨x, e.trans (by rw [mkEl, if_pos (pcs_tagg pcs25)]; rfl), hw⟩
structure Typ where
  name : List UInt8
  count : Int
  src : Int
  dst : Int
  cap_c : Bool
  cap : List (Int)
  skills : Int
  prof : Int
  opn : Int
  cls : Int
  drive : Int
  rest : Int
  fixed : Int
  perMile : Int
  perTick : Int
  deriving Inhabited
def cTyp (x : Typ) : List PV := [.str x.name, .int .i64 x.count, .int .i64 x.src, .int .i64 x.dst, .list x.cap_c (x.cap.map eI), .int .i64 x.skills, .int .i64 x.prof, .int .i64 x.opn, .int .i64 x.cls, .int .i64 x.drive, .int .i64 x.rest, .int .i64 x.fixed, .int .i64 x.perMile, .int .i64 x.perTick]
def eTyp (x : Typ) : PV := .agg [.str x.name, .int .i64 x.count, .int .i64 x.src, .int .i64 x.dst, .list x.cap_c (x.cap.map eI), .int .i64 x.skills, .int .i64 x.prof, .int .i64 x.opn, .int .i64 x.cls, .int .i64 x.drive, .int .i64 x.rest, .int .i64 x.fixed, .int .i64 x.perMile, .int .i64 x.perTick]
@[go_sem] theorem eTyp_eq (x : Typ) : eTyp x = .agg [.str x.name, .int .i64 x.count, .int .i64 x.src, .int .i64 x.dst, .list x.cap_c (x.cap.map eI), .int .i64 x.skills, .int .i64 x.prof, .int .i64 x.opn, .int .i64 x.cls, .int .i64 x.drive, .int .i64 x.rest, .int .i64 x.fixed, .int .i64 x.perMile, .int .i64 x.perTick] := Eq.trans rfl rfl
@[go_sem] theorem allS_eTyp (l : List Typ) : allS 14 (l.map eTyp) = true := allS_map (f := eTyp) (S := 14) (fun _ => rfl) l
@[go_sem] theorem okE_eTyp (l : List Typ) : okE 14 (l.map eTyp) = true := okE_map fun _ => rfl
def Typ.wf (B : Nat) (x : Typ) : Prop := x.name.length ≤ B ∧ I64 x.count ∧ I64 x.src ∧ I64 x.dst ∧ x.cap.length ≤ B ∧ (∀ n ∈ x.cap, I64 n) ∧ I64 x.skills ∧ I64 x.prof ∧ I64 x.opn ∧ I64 x.cls ∧ I64 x.drive ∧ I64 x.rest ∧ I64 x.fixed ∧ I64 x.perMile ∧ I64 x.perTick
theorem fits_Typ {B m cs} (h : fits Try.prog B m 94 cs) : ∃ x : Typ, cs = cTyp x ∧ x.wf B := by
  obtain ⟨h1, m', h2⟩ := fits_agg pcs94 cel94 h
  obtain ⟨a0, a1, a2, a3, a4, a5, a6, a7, a8, a9, a10, a11, a12, a13, rfl⟩ := len14 h1
  obtain ⟨n0, e0, w0, _⟩ := fits_str Try.underlying9 (h2 (0, 9) (by simp))
  obtain ⟨n1, e1, w1⟩ := fits_int Try.underlying3 (h2 (1, 3) (by simp))
  obtain ⟨n2, e2, w2⟩ := fits_int Try.underlying3 (h2 (2, 3) (by simp))
  obtain ⟨n3, e3, w3⟩ := fits_int Try.underlying3 (h2 (3, 3) (by simp))
  obtain ⟨y4, e4, w4, _, z4⟩ := fits_slice Try.underlying72 (h2 (4, 72) (by simp))
  obtain ⟨n4, rfl, u4⟩ := fit_ints z4
  obtain ⟨n5, e5, w5⟩ := fits_int Try.underlying3 (h2 (5, 3) (by simp))
  obtain ⟨n6, e6, w6⟩ := fits_int Try.underlying3 (h2 (6, 3) (by simp))
  obtain ⟨n7, e7, w7⟩ := fits_int Try.underlying3 (h2 (7, 3) (by simp))
  obtain ⟨n8, e8, w8⟩ := fits_int Try.underlying3 (h2 (8, 3) (by simp))
  obtain ⟨n9, e9, w9⟩ := fits_int Try.underlying3 (h2 (9, 3) (by simp))
  obtain ⟨n10, e10, w10⟩ := fits_int Try.underlying3 (h2 (10, 3) (by simp))
  obtain ⟨n11, e11, w11⟩ := fits_int Try.underlying3 (h2 (11, 3) (by simp))
  obtain ⟨n12, e12, w12⟩ := fits_int Try.underlying3 (h2 (12, 3) (by simp))
  obtain ⟨n13, e13, w13⟩ := fits_int Try.underlying3 (h2 (13, 3) (by simp))
  simp [cel72, cel3, cel9] at e0 e1 e2 e3 e4 e5 e6 e7 e8 e9 e10 e11 e12 e13
  subst e0; subst e1; subst e2; subst e3; subst e4; subst e5; subst e6; subst e7; subst e8; subst e9; subst e10; subst e11; subst e12; subst e13
  exact ⟨⟨n0, n1, n2, n3, false, n4, n5, n6, n7, n8, n9, n10, n11, n12, n13⟩, rfl, w0, i64_wf w1, i64_wf w2, i64_wf w3, by simpa using w4, u4, i64_wf w5, i64_wf w6, i64_wf w7, i64_wf w8, i64_wf w9, i64_wf w10, i64_wf w11, i64_wf w12, i64_wf w13⟩
theorem fit_Typ {B v} (h : FitV Try.prog B 94 v) : ∃ x : Typ, v = eTyp x ∧ x.wf B := by
  obtain ⟨k, cs, h, e⟩ := h.out
  obtain ⟨x, rfl, hw⟩ := fits_Typ h
  exact ⟨x, e.trans (by rw [mkEl, if_pos (pcs_tagg pcs94)]; rfl), hw⟩
structure Stp where
  place : Int
  opn : Int
  cls : Int
  serv : Int
  deriving Inhabited
def cStp (x : Stp) : List PV := [.int .i64 x.place, .int .i64 x.opn, .int .i64 x.cls, .int .i64 x.serv]
def eStp (x : Stp) : PV := .agg [.int .i64 x.place, .int .i64 x.opn, .int .i64 x.cls, .int .i64 x.serv]
@[go_sem] theorem eStp_eq (x : Stp) : eStp x = .agg [.int .i64 x.place, .int .i64 x.opn, .int .i64 x.cls, .int .i64 x.serv] := Eq.trans rfl rfl
@[go_sem] theorem allS_eStp (l : List Stp) : allS 4 (l.map eStp) = true := allS_map (f := eStp) (S := 4) (fun _ => rfl) l
@[go_sem] theorem okE_eStp (l : List Stp) : okE 4 (l.map eStp) = true := okE_map fun _ => rfl
def Stp.wf (B : Nat) (x : Stp) : Prop := I64 x.place ∧ I64 x.opn ∧ I64 x.cls ∧ I64 x.serv
theorem fits_Stp {B m cs} (h : fits Try.prog B m 74 cs) : ∃ x : Stp, cs = cStp x ∧ x.wf B := by
  obtain ⟨h1, m', h2⟩ := fits_agg pcs74 cel74 h
  obtain ⟨a0, a1, a2, a3, rfl⟩ := len4 h1
  obtain ⟨n0, e0, w0⟩ := fits_int Try.underlying3 (h2 (0, 3) (by simp))
  obtain ⟨n1, e1, w1⟩ := fits_int Try.underlying3 (h2 (1, 3) (by simp))
  obtain ⟨n2, e2, w2⟩ := fits_int Try.underlying3 (h2 (2, 3) (by simp))
  obtain ⟨n3, e3, w3⟩ := fits_int Try.underlying3 (h2 (3, 3) (by simp))
  simp [cel3] at e0 e1 e2 e3
  subst e0; subst e1; subst e2; subst e3
  exact ⟨⟨n0, n1, n2, n3⟩, rfl, i64_wf w0, i64_wf w1, i64_wf w2, i64_wf w3⟩
theorem fit_Stp {B v} (h : FitV Try.prog B 74 v) : ∃ x : Stp, v = eStp x ∧ x.wf B := by
  obtain ⟨k, cs, h, e⟩ := h.out
  obtain ⟨x, rfl, hw⟩ := fits_Stp h
  exact ⟨x, e.trans (by rw [mkEl, if_pos (pcs_tagg pcs74)]; rfl), hw⟩
theorem fit_P {B v} (h : FitV Try.prog B 79 v) : ∃ x : Int × Int, v = eP x ∧ I64 x.1 ∧ I64 x.2 := by
  obtain ⟨k, cs, h, e⟩ := h.out
  obtain ⟨h1, m', h2⟩ := fits_agg pcs79 cel79 h
  obtain ⟨a, b, rfl⟩ := len2 h1
  obtain ⟨n0, e0, w0⟩ := fits_int Try.underlying3 (h2 (0, 3) (by simp))
  obtain ⟨n1, e1, w1⟩ := fits_int Try.underlying3 (h2 (1, 3) (by simp))
  simp [cel3] at e0 e1
  subst e0; subst e1
  exact ⟨(n0, n1), e.trans (by rw [mkEl, if_pos (pcs_tagg pcs79)]; rfl), i64_wf w0, i64_wf w1⟩
structure Ord where
  name : List UInt8
  load_c : Bool
  load : List (Int)
  pick : Stp
  drp : Stp
  skills : Int
  penalty : Int
  split : Int
  last : Int
  now : Int
  off : Bool
  deriving Inhabited
def cOrd (x : Ord) : List PV := [.str x.name, .list x.load_c (x.load.map eI), .int .i64 x.pick.place, .int .i64 x.pick.opn, .int .i64 x.pick.cls, .int .i64 x.pick.serv, .int .i64 x.drp.place, .int .i64 x.drp.opn, .int .i64 x.drp.cls, .int .i64 x.drp.serv, .int .i64 x.skills, .int .i64 x.penalty, .int .i64 x.split, .int .i64 x.last, .int .i64 x.now, .bool x.off]
def eOrd (x : Ord) : PV := .agg [.str x.name, .list x.load_c (x.load.map eI), .int .i64 x.pick.place, .int .i64 x.pick.opn, .int .i64 x.pick.cls, .int .i64 x.pick.serv, .int .i64 x.drp.place, .int .i64 x.drp.opn, .int .i64 x.drp.cls, .int .i64 x.drp.serv, .int .i64 x.skills, .int .i64 x.penalty, .int .i64 x.split, .int .i64 x.last, .int .i64 x.now, .bool x.off]
@[go_sem] theorem eOrd_eq (x : Ord) : eOrd x = .agg [.str x.name, .list x.load_c (x.load.map eI), .int .i64 x.pick.place, .int .i64 x.pick.opn, .int .i64 x.pick.cls, .int .i64 x.pick.serv, .int .i64 x.drp.place, .int .i64 x.drp.opn, .int .i64 x.drp.cls, .int .i64 x.drp.serv, .int .i64 x.skills, .int .i64 x.penalty, .int .i64 x.split, .int .i64 x.last, .int .i64 x.now, .bool x.off] := Eq.trans rfl rfl
@[go_sem] theorem allS_eOrd (l : List Ord) : allS 16 (l.map eOrd) = true := allS_map (f := eOrd) (S := 16) (fun _ => rfl) l
@[go_sem] theorem okE_eOrd (l : List Ord) : okE 16 (l.map eOrd) = true := okE_map fun _ => rfl
def Ord.wf (B : Nat) (x : Ord) : Prop := x.name.length ≤ B ∧ x.load.length ≤ B ∧ (∀ n ∈ x.load, I64 n) ∧ Stp.wf B x.pick ∧ Stp.wf B x.drp ∧ I64 x.skills ∧ I64 x.penalty ∧ I64 x.split ∧ I64 x.last ∧ I64 x.now
theorem fits_Ord {B m cs} (h : fits Try.prog B m 76 cs) : ∃ x : Ord, cs = cOrd x ∧ x.wf B := by
  obtain ⟨h1, m', h2⟩ := fits_agg pcs76 cel76 h
  obtain ⟨a0, a1, a2, a3, a4, a5, a6, a7, a8, a9, a10, a11, a12, a13, a14, a15, rfl⟩ := len16 h1
  obtain ⟨n0, e0, w0, _⟩ := fits_str Try.underlying9 (h2 (0, 9) (by simp))
  obtain ⟨y1, e1, w1, _, z1⟩ := fits_slice Try.underlying72 (h2 (1, 72) (by simp))
  obtain ⟨n1, rfl, u1⟩ := fit_ints z1
  obtain ⟨n2, e2, w2⟩ := fits_Stp (h2 (2, 74) (by simp))
  obtain ⟨n3, e3, w3⟩ := fits_Stp (h2 (6, 74) (by simp))
  obtain ⟨n4, e4, w4⟩ := fits_int Try.underlying3 (h2 (10, 3) (by simp))
  obtain ⟨n5, e5, w5⟩ := fits_int Try.underlying3 (h2 (11, 3) (by simp))
  obtain ⟨n6, e6, w6⟩ := fits_int Try.underlying3 (h2 (12, 3) (by simp))
  obtain ⟨n7, e7, w7⟩ := fits_int Try.underlying3 (h2 (13, 3) (by simp))
  obtain ⟨n8, e8, w8⟩ := fits_int Try.underlying3 (h2 (14, 3) (by simp))
  obtain ⟨n9, e9⟩ := fits_bool Try.underlying4 (h2 (15, 4) (by simp))
  simp [cel72, cel74, cel4, cel3, cel9, cStp, cStp] at e0 e1 e2 e3 e4 e5 e6 e7 e8 e9
  subst e0; subst e1; obtain ⟨rfl, rfl, rfl, rfl⟩ := e2; obtain ⟨rfl, rfl, rfl, rfl⟩ := e3; subst e4; subst e5; subst e6; subst e7; subst e8; subst e9
  exact ⟨⟨n0, false, n1, n2, n3, n4, n5, n6, n7, n8, n9⟩, rfl, w0, by simpa using w1, u1, w2, w3, i64_wf w4, i64_wf w5, i64_wf w6, i64_wf w7, i64_wf w8⟩
theorem fit_Ord {B v} (h : FitV Try.prog B 76 v) : ∃ x : Ord, v = eOrd x ∧ x.wf B := by
  obtain ⟨k, cs, h, e⟩ := h.out
  obtain ⟨x, rfl, hw⟩ := fits_Ord h
  exact ⟨x, e.trans (by rw [mkEl, if_pos (pcs_tagg pcs76)]; rfl), hw⟩
structure Inst where
  net : Net
  types_c : Bool
  types : List (Typ)
  orders_c : Bool
  orders : List (Ord)
  apart_c : Bool
  apart : List (Int × Int)
  before_c : Bool
  before : List (Int × Int)
  deriving Inhabited
def cInst (x : Inst) : List PV := [.list x.net.places_c (x.net.places.map eS), .list x.net.arcs_c (x.net.arcs.map eArc), .list x.types_c (x.types.map eTyp), .list x.orders_c (x.orders.map eOrd), .list x.apart_c (x.apart.map eP), .list x.before_c (x.before.map eP)]
def eInst (x : Inst) : PV := .agg [.list x.net.places_c (x.net.places.map eS), .list x.net.arcs_c (x.net.arcs.map eArc), .list x.types_c (x.types.map eTyp), .list x.orders_c (x.orders.map eOrd), .list x.apart_c (x.apart.map eP), .list x.before_c (x.before.map eP)]
@[go_sem] theorem eInst_eq (x : Inst) : eInst x = .agg [.list x.net.places_c (x.net.places.map eS), .list x.net.arcs_c (x.net.arcs.map eArc), .list x.types_c (x.types.map eTyp), .list x.orders_c (x.orders.map eOrd), .list x.apart_c (x.apart.map eP), .list x.before_c (x.before.map eP)] := Eq.trans rfl rfl
@[go_sem] theorem allS_eInst (l : List Inst) : allS 6 (l.map eInst) = true := allS_map (f := eInst) (S := 6) (fun _ => rfl) l
@[go_sem] theorem okE_eInst (l : List Inst) : okE 6 (l.map eInst) = true := okE_map fun _ => rfl
def Inst.wf (B : Nat) (x : Inst) : Prop := Net.wf B x.net ∧ x.types.length ≤ B ∧ (∀ y ∈ x.types, Typ.wf B y) ∧ x.orders.length ≤ B ∧ (∀ y ∈ x.orders, Ord.wf B y) ∧ x.apart.length ≤ B ∧ (∀ p ∈ x.apart, I64 p.1 ∧ I64 p.2) ∧ x.before.length ≤ B ∧ (∀ p ∈ x.before, I64 p.1 ∧ I64 p.2)
theorem fits_Inst {B m cs} (h : fits Try.prog B m 30 cs) : ∃ x : Inst, cs = cInst x ∧ x.wf B := by
  obtain ⟨h1, m', h2⟩ := fits_agg pcs30 cel30 h
  obtain ⟨a0, a1, a2, a3, a4, a5, rfl⟩ := len6 h1
  obtain ⟨n0, e0, w0⟩ := fits_Net (h2 (0, 25) (by simp))
  obtain ⟨y1, e1, w1, _, z1⟩ := fits_slice Try.underlying26 (h2 (2, 26) (by simp))
  obtain ⟨n1, rfl, u1⟩ := row_map (f := eTyp) fun y hy => fit_Typ (z1 y hy)
  obtain ⟨y2, e2, w2, _, z2⟩ := fits_slice Try.underlying27 (h2 (3, 27) (by simp))
  obtain ⟨n2, rfl, u2⟩ := row_map (f := eOrd) fun y hy => fit_Ord (z2 y hy)
  obtain ⟨y3, e3, w3, _, z3⟩ := fits_slice Try.underlying28 (h2 (4, 28) (by simp))
  obtain ⟨n3, rfl, u3⟩ := row_map (f := eP) fun y hy => fit_P (z3 y hy)
  obtain ⟨y4, e4, w4, _, z4⟩ := fits_slice Try.underlying28 (h2 (5, 28) (by simp))
  obtain ⟨n4, rfl, u4⟩ := row_map (f := eP) fun y hy => fit_P (z4 y hy)
  simp [cel28, cel27, cel26, cel25, cNet] at e0 e1 e2 e3 e4
  obtain ⟨rfl, rfl⟩ := e0; subst e1; subst e2; subst e3; subst e4
  exact ⟨⟨n0, false, n1, false, n2, false, n3, false, n4⟩, rfl, w0, by simpa using w1, u1, by simpa using w2, u2, by simpa using w3, u3, by simpa using w4, u4⟩
theorem fit_Inst {B v} (h : FitV Try.prog B 30 v) : ∃ x : Inst, v = eInst x ∧ x.wf B := by
  obtain ⟨k, cs, h, e⟩ := h.out
  obtain ⟨x, rfl, hw⟩ := fits_Inst h
  exact ⟨x, e.trans (by rw [mkEl, if_pos (pcs_tagg pcs30)]; rfl), hw⟩
structure Vis where
  order : Int
  drp : Bool
  deriving Inhabited
def cVis (x : Vis) : List PV := [.int .i64 x.order, .bool x.drp]
def eVis (x : Vis) : PV := .agg [.int .i64 x.order, .bool x.drp]
@[go_sem] theorem eVis_eq (x : Vis) : eVis x = .agg [.int .i64 x.order, .bool x.drp] := Eq.trans rfl rfl
@[go_sem] theorem allS_eVis (l : List Vis) : allS 2 (l.map eVis) = true := allS_map (f := eVis) (S := 2) (fun _ => rfl) l
@[go_sem] theorem okE_eVis (l : List Vis) : okE 2 (l.map eVis) = true := okE_map fun _ => rfl
def Vis.wf (B : Nat) (x : Vis) : Prop := I64 x.order
theorem fits_Vis {B m cs} (h : fits Try.prog B m 52 cs) : ∃ x : Vis, cs = cVis x ∧ x.wf B := by
  obtain ⟨h1, m', h2⟩ := fits_agg pcs52 cel52 h
  obtain ⟨a0, a1, rfl⟩ := len2 h1
  obtain ⟨n0, e0, w0⟩ := fits_int Try.underlying3 (h2 (0, 3) (by simp))
  obtain ⟨n1, e1⟩ := fits_bool Try.underlying4 (h2 (1, 4) (by simp))
  simp [cel4, cel3] at e0 e1
  subst e0; subst e1
  exact ⟨⟨n0, n1⟩, rfl, i64_wf w0⟩
theorem fit_Vis {B v} (h : FitV Try.prog B 52 v) : ∃ x : Vis, v = eVis x ∧ x.wf B := by
  obtain ⟨k, cs, h, e⟩ := h.out
  obtain ⟨x, rfl, hw⟩ := fits_Vis h
  exact ⟨x, e.trans (by rw [mkEl, if_pos (pcs_tagg pcs52)]; rfl), hw⟩
structure Rte where
  typ : Int
  start : Int
  rests_c : Bool
  rests : List (Bool)
  visits_c : Bool
  visits : List (Vis)
  deriving Inhabited
def cRte (x : Rte) : List PV := [.int .i64 x.typ, .int .i64 x.start, .list x.rests_c (x.rests.map eB), .list x.visits_c (x.visits.map eVis)]
def eRte (x : Rte) : PV := .agg [.int .i64 x.typ, .int .i64 x.start, .list x.rests_c (x.rests.map eB), .list x.visits_c (x.visits.map eVis)]
@[go_sem] theorem eRte_eq (x : Rte) : eRte x = .agg [.int .i64 x.typ, .int .i64 x.start, .list x.rests_c (x.rests.map eB), .list x.visits_c (x.visits.map eVis)] := Eq.trans rfl rfl
@[go_sem] theorem allS_eRte (l : List Rte) : allS 4 (l.map eRte) = true := allS_map (f := eRte) (S := 4) (fun _ => rfl) l
@[go_sem] theorem okE_eRte (l : List Rte) : okE 4 (l.map eRte) = true := okE_map fun _ => rfl
def Rte.wf (B : Nat) (x : Rte) : Prop := I64 x.typ ∧ I64 x.start ∧ x.rests.length ≤ B ∧ (∀ b ∈ x.rests, True) ∧ x.visits.length ≤ B ∧ (∀ y ∈ x.visits, Vis.wf B y)
theorem fits_Rte {B m cs} (h : fits Try.prog B m 34 cs) : ∃ x : Rte, cs = cRte x ∧ x.wf B := by
  obtain ⟨h1, m', h2⟩ := fits_agg pcs34 cel34 h
  obtain ⟨a0, a1, a2, a3, rfl⟩ := len4 h1
  obtain ⟨n0, e0, w0⟩ := fits_int Try.underlying3 (h2 (0, 3) (by simp))
  obtain ⟨n1, e1, w1⟩ := fits_int Try.underlying3 (h2 (1, 3) (by simp))
  obtain ⟨y2, e2, w2, _, z2⟩ := fits_slice Try.underlying31 (h2 (2, 31) (by simp))
  obtain ⟨n2, rfl, u2⟩ := fit_bools z2
  obtain ⟨y3, e3, w3, _, z3⟩ := fits_slice Try.underlying32 (h2 (3, 32) (by simp))
  obtain ⟨n3, rfl, u3⟩ := row_map (f := eVis) fun y hy => fit_Vis (z3 y hy)
  simp [cel32, cel31, cel3] at e0 e1 e2 e3
  subst e0; subst e1; subst e2; subst e3
  exact ⟨⟨n0, n1, false, n2, false, n3⟩, rfl, i64_wf w0, i64_wf w1, by simpa using w2, u2, by simpa using w3, u3⟩
theorem fit_Rte {B v} (h : FitV Try.prog B 34 v) : ∃ x : Rte, v = eRte x ∧ x.wf B := by
  obtain ⟨k, cs, h, e⟩ := h.out
  obtain ⟨x, rfl, hw⟩ := fits_Rte h
  exact ⟨x, e.trans (by rw [mkEl, if_pos (pcs_tagg pcs34)]; rfl), hw⟩
structure Itm where
  kind : Int
  a : Int
  deriving Inhabited
def cItm (x : Itm) : List PV := [.int .i64 x.kind, .int .i64 x.a]
def eItm (x : Itm) : PV := .agg [.int .i64 x.kind, .int .i64 x.a]
@[go_sem] theorem eItm_eq (x : Itm) : eItm x = .agg [.int .i64 x.kind, .int .i64 x.a] := Eq.trans rfl rfl
@[go_sem] theorem allS_eItm (l : List Itm) : allS 2 (l.map eItm) = true := allS_map (f := eItm) (S := 2) (fun _ => rfl) l
@[go_sem] theorem okE_eItm (l : List Itm) : okE 2 (l.map eItm) = true := okE_map fun _ => rfl
def Itm.wf (B : Nat) (x : Itm) : Prop := I64 x.kind ∧ I64 x.a
theorem fits_Itm {B m cs} (h : fits Try.prog B m 55 cs) : ∃ x : Itm, cs = cItm x ∧ x.wf B := by
  obtain ⟨h1, m', h2⟩ := fits_agg pcs55 cel55 h
  obtain ⟨a0, a1, rfl⟩ := len2 h1
  obtain ⟨n0, e0, w0⟩ := fits_int Try.underlying3 (h2 (0, 3) (by simp))
  obtain ⟨n1, e1, w1⟩ := fits_int Try.underlying3 (h2 (1, 3) (by simp))
  simp [cel3] at e0 e1
  subst e0; subst e1
  exact ⟨⟨n0, n1⟩, rfl, i64_wf w0, i64_wf w1⟩
theorem fit_Itm {B v} (h : FitV Try.prog B 55 v) : ∃ x : Itm, v = eItm x ∧ x.wf B := by
  obtain ⟨k, cs, h, e⟩ := h.out
  obtain ⟨x, rfl, hw⟩ := fits_Itm h
  exact ⟨x, e.trans (by rw [mkEl, if_pos (pcs_tagg pcs55)]; rfl), hw⟩
end Go.Proofs.Ytlbhefiehkmhjaa.K
