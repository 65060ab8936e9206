/- Declarations that the closing texts need, part 11: joined by tools/slim.py. -/
import Derived.Test.YtkhgmjdijnmhbaaDoorZ10
import Derived.Test.YtkhgmjdijnmhbaaDoorRows
namespace Go.Proofs.YtkhgmjdijnmhbaaDoor.K
open Go Go.AM Go.Proofs
theorem Zcj : Tryd.prog.cellsOf 3 = 1 := by kernel_rfl
theorem ZoW : Tryd.prog.cellsOf 4 = 1 := by kernel_rfl
theorem Zp4 : Tryd.prog.cellsOf 9 = 1 := by kernel_rfl
theorem ZmG : Tryd.prog.cellsOf 22 = 1 := by kernel_rfl
theorem ZmK : Tryd.prog.cellsOf 23 = 1 := by kernel_rfl
theorem ZgQ : Tryd.prog.cellsOf 25 = 2 := by kernel_rfl
theorem ZmD : pcs Tryd.prog 25 = some [(0, 22), (1, 23)] := by kernel_rfl
theorem Zoc : Tryd.prog.cellsOf 26 = 1 := by kernel_rfl
theorem ZmY : Tryd.prog.cellsOf 27 = 1 := by kernel_rfl
theorem Zn8 : Tryd.prog.cellsOf 28 = 1 := by kernel_rfl
theorem Znw : Tryd.prog.cellsOf 30 = 6 := by kernel_rfl
theorem ZgS : pcs Tryd.prog 30 = some [(0, 25), (2, 26), (3, 27), (4, 28), (5, 28)] := by kernel_rfl
theorem Zg4 : Tryd.prog.cellsOf 39 = 1 := by kernel_rfl
theorem Zl4 : Tryd.prog.cellsOf 46 = 1 := by kernel_rfl
theorem ZlU : Tryd.prog.cellsOf 47 = 1 := by kernel_rfl
theorem Zhe : Tryd.prog.cellsOf 49 = 4 := by kernel_rfl
theorem Zon : pcs Tryd.prog 49 = some [(0, 3), (1, 3), (2, 46), (3, 47)] := by kernel_rfl
theorem Zl9 : Tryd.prog.cellsOf 51 = 7 := by kernel_rfl
theorem Zg0 : pcs Tryd.prog 51 = some [(0, 3), (1, 3), (2, 3), (3, 49)] := by kernel_rfl
theorem ZhB : Tryd.prog.cellsOf 81 = 4 := by kernel_rfl
theorem ZnN : pcs Tryd.prog 81 = some [(0, 3), (1, 3), (2, 3), (3, 3)] := by kernel_rfl
theorem ZnC : Tryd.prog.cellsOf 83 = 16 := by kernel_rfl
theorem Zhp : pcs Tryd.prog 83 = some [(0, 9), (1, 39), (2, 81), (6, 81), (10, 3), (11, 3), (12, 3), (13, 3), (14, 3), (15, 4)] := by kernel_rfl
theorem Zoq : Tryd.prog.cellsOf 93 = 14 := by kernel_rfl
theorem ZhH : pcs Tryd.prog 93 = some [(0, 9), (1, 3), (2, 3), (3, 3), (4, 39), (5, 3), (6, 3), (7, 3), (8, 3), (9, 3), (10, 3), (11, 3), (12, 3), (13, 3)] := by kernel_rfl
theorem ZhR : Tryd.prog.cellsOf 123 = 1 := by kernel_rfl
theorem Zid : Tryd.prog.cellsOf 125 = 6 := by kernel_rfl
theorem Zed : pcs Tryd.prog 125 = some [(0, 3), (1, 3), (2, 3), (3, 3), (4, 123), (5, 123)] := by kernel_rfl
theorem ZiM : Tryd.prog.cellsOf 128 = 2 := by kernel_rfl
theorem Zd8 : pcs Tryd.prog 128 = some [(0, 3), (1, 3)] := by kernel_rfl
theorem Zhn : Tryd.prog.cellsOf 133 = 2 := by kernel_rfl
theorem Zdu : pcs Tryd.prog 133 = some [(0, 3), (1, 3)] := by kernel_rfl
theorem ZhU : Tryd.prog.cellsOf 157 = 2 := by kernel_rfl
theorem Zee : pcs Tryd.prog 157 = some [(0, 3), (1, 4)] := by kernel_rfl
set_option linter.unusedVariables false
set_option linter.unusedSimpArgs false
mutual
theorem Za4 {H : Type} : (d : DataW H) -> dsz d <= Rows.uptoBulk d
 | .lit l => by cases l <;> simp [dsz, Rows.uptoBulk]
 | .nil => by simp [dsz, Rows.uptoBulk]
 | .ptr d => by have := Za4 d; simp only [dsz, Rows.uptoBulk]; omega
 | .slice es sp => by have := Vl es; have := Vl sp; simp only [dsz, Rows.uptoBulk]; omega
 | .agg ps => by have := Vl ps; simp only [dsz, Rows.uptoBulk]; omega
 | .iface _ d => by have := Za4 d; simp only [dsz, Rows.uptoBulk]; omega
 | .map es => by simp only [dsz, Rows.uptoBulk]; omega
 | .held h => by simp [dsz, Rows.uptoBulk]
theorem Vl {H : Type} : (l : List (DataW H)) -> U6 l <= Rows.uptoBulkAll l
 | [] => by simp [U6, Rows.uptoBulkAll]
 | d :: r => by have := Za4 d; have := Vl r; simp only [U6, Rows.uptoBulkAll]; omega
end
theorem KM {H : Type} {l : List (DataW H)} (h : Rows.uptoSmall H l = true) : U6 l <= 1048576 := by
 have h1 := Vl l;have h2 : Rows.uptoBulkAll l <= 1048576 := of_decide_eq_true h;omega
abbrev I64 (n : Int) : Prop := -9223372036854775808 <= n /\ n <= 9223372036854775807
def eI (n : Int) : PV := .int .i64 n
def eB (b : Bool) : PV := .bool b
def eS (s : List UInt8) : PV := .str s
def eP (p : Int × Int) : PV := .agg [.int .i64 p.1, .int .i64 p.2]
@[go_sem] theorem Zrx (n : Int) : eI n = .int .i64 n := Eq.trans rfl rfl
@[go_sem] theorem Zru (b : Bool) : eB b = .bool b := Eq.trans rfl rfl
@[go_sem] theorem Zrk (s : List UInt8) : eS s = .str s := Eq.trans rfl rfl
@[go_sem] theorem Zre (p : Int × Int) : eP p = .agg [.int .i64 p.1, .int .i64 p.2] := Eq.trans rfl rfl
@[go_sem] theorem ZpP (l : List Int) : okE 1 (l.map eI) = true := Zad fun _ => rfl
theorem Kf {B xs} (h : ∀ y ∈ xs, FitV Tryd.prog B 3 y) : ∃ l : List Int, xs = l.map eI /\ ∀ n ∈ l, I64 n :=
 Xg (f := eI) fun y hy => by
  obtain ⟨n, rfl, w⟩ := ZeV Tryd.underlying3 (h y hy);exact ⟨n, rfl, ZB w⟩
theorem Zbx {B xs} (h : ∀ y ∈ xs, FitV Tryd.prog B 4 y) : ∃ l : List Bool, xs = l.map eB /\ ∀ b ∈ l, True :=
 Xg (f := eB) fun y hy => by
  obtain ⟨b, rfl⟩ := Zc9 Tryd.underlying4 (h y hy);exact ⟨b, rfl, trivial⟩
theorem Zc6 {B xs} (h : ∀ y ∈ xs, FitV Tryd.prog B 9 y) : ∃ l : List (List UInt8), xs = l.map eS /\ ∀ s ∈ l, s.length <= B :=
 Xg (f := eS) fun y hy => by
  obtain ⟨s, rfl, w, _⟩ := ZeF Tryd.underlying9 (h y hy);exact ⟨s, rfl, w⟩
theorem ZkT {α : Type} {l : List α} (h : l.length = 2) : ∃ a0 a1, l = [a0, a1] := by
 match l, h with | [a0, a1], _ => exact ⟨a0, a1, rfl⟩
theorem ZpX {α : Type} {l : List α} (h : l.length = 6) : ∃ a0 a1 a2 a3 a4 a5, l = [a0, a1, a2, a3, a4, a5] := by
 match l, h with | [a0, a1, a2, a3, a4, a5], _ => exact ⟨a0, a1, a2, a3, a4, a5, rfl⟩
theorem Zm3 {α : Type} {l : List α} (h : l.length = 14) : ∃ a0 a1 a2 a3 a4 a5 a6 a7 a8 a9 a10 a11 a12 a13, l = [a0, a1, a2, a3, a4, a5, a6, a7, a8, a9, a10, a11, a12, a13] := by
 match l, h with | [a0, a1, a2, a3, a4, a5, a6, a7, a8, a9, a10, a11, a12, a13], _ => exact ⟨a0, a1, a2, a3, a4, a5, a6, a7, a8, a9, a10, a11, a12, a13, rfl⟩
theorem ZpA {α : Type} {l : List α} (h : l.length = 4) : ∃ a0 a1 a2 a3, l = [a0, a1, a2, a3] := by
 match l, h with | [a0, a1, a2, a3], _ => exact ⟨a0, a1, a2, a3, rfl⟩
theorem Zl7 {α : Type} {l : List α} (h : l.length = 16) : ∃ a0 a1 a2 a3 a4 a5 a6 a7 a8 a9 a10 a11 a12 a13 a14 a15, l = [a0, a1, a2, a3, a4, a5, a6, a7, a8, a9, a10, a11, a12, a13, a14, a15] := by
 match l, h with | [a0, a1, a2, a3, a4, a5, a6, a7, a8, a9, a10, a11, a12, a13, a14, a15], _ => exact ⟨a0, a1, a2, a3, a4, a5, a6, a7, a8, a9, a10, a11, a12, a13, a14, a15, rfl⟩
theorem Zqw {α : Type} {l : List α} (h : l.length = 7) : ∃ a0 a1 a2 a3 a4 a5 a6, l = [a0, a1, a2, a3, a4, a5, a6] := by
 match l, h with | [a0, a1, a2, a3, a4, a5, a6], _ => exact ⟨a0, a1, a2, a3, a4, a5, a6, rfl⟩
structure Pt where
 t : Int
 a : Int
 deriving Inhabited
def cPt (x : Pt) : List PV := [.int .i64 x.t, .int .i64 x.a]
def ePt (x : Pt) : PV := .agg [.int .i64 x.t, .int .i64 x.a]
@[go_sem] theorem ZpZ (x : Pt) : ePt x = .agg [.int .i64 x.t, .int .i64 x.a] := Eq.trans rfl rfl
def Pt.wf (B : Nat) (x : Pt) : Prop := I64 x.t /\ I64 x.a
theorem ZeQ {B m cs} (h : X4 Tryd.prog B m 128 cs) : ∃ x : Pt, cs = cPt x /\ x.wf B := by
 obtain ⟨h1, m', h2⟩ := Xd Zd8 ZiM h;obtain ⟨a0, a1, rfl⟩ := ZkT h1;obtain ⟨n0, e0, w0⟩ := Zh Tryd.underlying3 (h2 (0, 3) (by simp));obtain ⟨n1, e1, w1⟩ := Zh Tryd.underlying3 (h2 (1, 3) (by simp));simp [Zcj] at e0 e1;subst e0; subst e1;exact ⟨⟨n0, n1⟩, rfl, ZB w0, ZB w1⟩
theorem ZdY {B v} (h : FitV Tryd.prog B 128 v) : ∃ x : Pt, v = ePt x /\ x.wf B := by
 obtain ⟨k, cs, h, e⟩ := h.out;obtain ⟨x, rfl, hw⟩ := ZeQ h;exact ⟨x, e.trans (by rw [VQ, if_pos (Xh Zd8)]; rfl), hw⟩
structure Arc where
 src : Int
 dst : Int
 prof : Int
 miles : Int
 travel_c : Bool
 travel : List (Pt)
 slow_c : Bool
 slow : List (Pt)
 deriving Inhabited
def Zq5 (x : Arc) : List PV := [.int .i64 x.src, .int .i64 x.dst, .int .i64 x.prof, .int .i64 x.miles, .list x.travel_c (x.travel.map ePt), .list x.slow_c (x.slow.map ePt)]
def J0 (x : Arc) : PV := .agg [.int .i64 x.src, .int .i64 x.dst, .int .i64 x.prof, .int .i64 x.miles, .list x.travel_c (x.travel.map ePt), .list x.slow_c (x.slow.map ePt)]
@[go_sem] theorem Znk (x : Arc) : J0 x = .agg [.int .i64 x.src, .int .i64 x.dst, .int .i64 x.prof, .int .i64 x.miles, .list x.travel_c (x.travel.map ePt), .list x.slow_c (x.slow.map ePt)] := Eq.trans rfl rfl
def Arc.wf (B : Nat) (x : Arc) : Prop := I64 x.src /\ I64 x.dst /\ I64 x.prof /\ I64 x.miles /\ x.travel.length <= B /\ (∀ y ∈ x.travel, Pt.wf B y) /\ x.slow.length <= B /\ (∀ y ∈ x.slow, Pt.wf B y)
theorem Zcl {B m cs} (h : X4 Tryd.prog B m 125 cs) : ∃ x : Arc, cs = Zq5 x /\ x.wf B := by
 obtain ⟨h1, m', h2⟩ := Xd Zed Zid h;obtain ⟨a0, a1, a2, a3, a4, a5, rfl⟩ := ZpX h1;obtain ⟨n0, e0, w0⟩ := Zh Tryd.underlying3 (h2 (0, 3) (by simp));obtain ⟨n1, e1, w1⟩ := Zh Tryd.underlying3 (h2 (1, 3) (by simp));obtain ⟨n2, e2, w2⟩ := Zh Tryd.underlying3 (h2 (2, 3) (by simp));obtain ⟨n3, e3, w3⟩ := Zh Tryd.underlying3 (h2 (3, 3) (by simp));obtain ⟨y4, e4, w4, _, z4⟩ := ZG Tryd.underlying123 (h2 (4, 123) (by simp));obtain ⟨n4, rfl, u4⟩ := Xg (f := ePt) fun y hy => ZdY (z4 y hy);obtain ⟨y5, e5, w5, _, z5⟩ := ZG Tryd.underlying123 (h2 (5, 123) (by simp))
 obtain ⟨n5, rfl, u5⟩ := Xg (f := ePt) fun y hy => ZdY (z5 y hy);simp [ZhR, Zcj] at e0 e1 e2 e3 e4 e5;subst e0; subst e1; subst e2; subst e3; subst e4; subst e5;exact ⟨⟨n0, n1, n2, n3, false, n4, false, n5⟩, rfl, ZB w0, ZB w1, ZB w2, ZB w3, by simpa using w4, u4, by simpa using w5, u5⟩
theorem Zfh {B v} (h : FitV Tryd.prog B 125 v) : ∃ x : Arc, v = J0 x /\ x.wf B := by
 obtain ⟨k, cs, h, e⟩ := h.out;obtain ⟨x, rfl, hw⟩ := Zcl h;exact ⟨x, e.trans (by rw [VQ, if_pos (Xh Zed)]; rfl), hw⟩
structure Net where
 places_c : Bool
 places : List (List UInt8)
 arcs_c : Bool
 arcs : List (Arc)
 deriving Inhabited
def Zpe (x : Net) : List PV := [.list x.places_c (x.places.map eS), .list x.arcs_c (x.arcs.map J0)]
def Zec (x : Net) : PV := .agg [.list x.places_c (x.places.map eS), .list x.arcs_c (x.arcs.map J0)]
@[go_sem] theorem Zmt (x : Net) : Zec x = .agg [.list x.places_c (x.places.map eS), .list x.arcs_c (x.arcs.map J0)] := Eq.trans rfl rfl
def Net.wf (B : Nat) (x : Net) : Prop := x.places.length <= B /\ (∀ s ∈ x.places, s.length <= B) /\ x.arcs.length <= B /\ (∀ y ∈ x.arcs, Arc.wf B y)
theorem ZcS {B m cs} (h : X4 Tryd.prog B m 25 cs) : ∃ x : Net, cs = Zpe x /\ x.wf B := by
 obtain ⟨h1, m', h2⟩ := Xd ZmD ZgQ h;obtain ⟨a0, a1, rfl⟩ := ZkT h1;obtain ⟨y0, e0, w0, _, z0⟩ := ZG Tryd.underlying22 (h2 (0, 22) (by simp));obtain ⟨n0, rfl, u0⟩ := Zc6 z0;obtain ⟨y1, e1, w1, _, z1⟩ := ZG Tryd.underlying23 (h2 (1, 23) (by simp));obtain ⟨n1, rfl, u1⟩ := Xg (f := J0) fun y hy => Zfh (z1 y hy);simp [ZmK, ZmG] at e0 e1;subst e0; subst e1;exact ⟨⟨false, n0, false, n1⟩, rfl, by simpa using w0, u0, by simpa using w1, u1⟩
structure Typ where
 name : List UInt8
 count : Int
 src : Int
 dst : Int
 cap_c : Bool
 cap : List (Int)
 skills : Int
 prof : Int
 opn : Int
 cls : Int
 drive : Int
 rest : Int
 fixed : Int
 perMile : Int
 perTick : Int
 deriving Inhabited
def Zri (x : Typ) : List PV := [.str x.name, .int .i64 x.count, .int .i64 x.src, .int .i64 x.dst, .list x.cap_c (x.cap.map eI), .int .i64 x.skills, .int .i64 x.prof, .int .i64 x.opn, .int .i64 x.cls, .int .i64 x.drive, .int .i64 x.rest, .int .i64 x.fixed, .int .i64 x.perMile, .int .i64 x.perTick]
def Q2 (x : Typ) : PV := .agg [.str x.name, .int .i64 x.count, .int .i64 x.src, .int .i64 x.dst, .list x.cap_c (x.cap.map eI), .int .i64 x.skills, .int .i64 x.prof, .int .i64 x.opn, .int .i64 x.cls, .int .i64 x.drive, .int .i64 x.rest, .int .i64 x.fixed, .int .i64 x.perMile, .int .i64 x.perTick]
@[go_sem] theorem Zm1 (x : Typ) : Q2 x = .agg [.str x.name, .int .i64 x.count, .int .i64 x.src, .int .i64 x.dst, .list x.cap_c (x.cap.map eI), .int .i64 x.skills, .int .i64 x.prof, .int .i64 x.opn, .int .i64 x.cls, .int .i64 x.drive, .int .i64 x.rest, .int .i64 x.fixed, .int .i64 x.perMile, .int .i64 x.perTick] := Eq.trans rfl rfl
def Typ.wf (B : Nat) (x : Typ) : Prop := x.name.length <= B /\ I64 x.count /\ I64 x.src /\ I64 x.dst /\ x.cap.length <= B /\ (∀ n ∈ x.cap, I64 n) /\ I64 x.skills /\ I64 x.prof /\ I64 x.opn /\ I64 x.cls /\ I64 x.drive /\ I64 x.rest /\ I64 x.fixed /\ I64 x.perMile /\ I64 x.perTick
theorem ZcF {B m cs} (h : X4 Tryd.prog B m 93 cs) : ∃ x : Typ, cs = Zri x /\ x.wf B := by
 obtain ⟨h1, m', h2⟩ := Xd ZhH Zoq h;obtain ⟨a0, a1, a2, a3, a4, a5, a6, a7, a8, a9, a10, a11, a12, a13, rfl⟩ := Zm3 h1;obtain ⟨n0, e0, w0, _⟩ := Ut Tryd.underlying9 (h2 (0, 9) (by simp));obtain ⟨n1, e1, w1⟩ := Zh Tryd.underlying3 (h2 (1, 3) (by simp));obtain ⟨n2, e2, w2⟩ := Zh Tryd.underlying3 (h2 (2, 3) (by simp));obtain ⟨n3, e3, w3⟩ := Zh Tryd.underlying3 (h2 (3, 3) (by simp));obtain ⟨y4, e4, w4, _, z4⟩ := ZG Tryd.underlying39 (h2 (4, 39) (by simp));obtain ⟨n4, rfl, u4⟩ := Kf z4;obtain ⟨n5, e5, w5⟩ := Zh Tryd.underlying3 (h2 (5, 3) (by simp))
 obtain ⟨n6, e6, w6⟩ := Zh Tryd.underlying3 (h2 (6, 3) (by simp));obtain ⟨n7, e7, w7⟩ := Zh Tryd.underlying3 (h2 (7, 3) (by simp));obtain ⟨n8, e8, w8⟩ := Zh Tryd.underlying3 (h2 (8, 3) (by simp));obtain ⟨n9, e9, w9⟩ := Zh Tryd.underlying3 (h2 (9, 3) (by simp));obtain ⟨n10, e10, w10⟩ := Zh Tryd.underlying3 (h2 (10, 3) (by simp));obtain ⟨n11, e11, w11⟩ := Zh Tryd.underlying3 (h2 (11, 3) (by simp));obtain ⟨n12, e12, w12⟩ := Zh Tryd.underlying3 (h2 (12, 3) (by simp));obtain ⟨n13, e13, w13⟩ := Zh Tryd.underlying3 (h2 (13, 3) (by simp));simp [Zg4, Zcj, Zp4] at e0 e1 e2 e3 e4 e5 e6 e7 e8 e9 e10 e11 e12 e13
 subst e0; subst e1; subst e2; subst e3; subst e4; subst e5; subst e6; subst e7; subst e8; subst e9; subst e10; subst e11; subst e12; subst e13;exact ⟨⟨n0, n1, n2, n3, false, n4, n5, n6, n7, n8, n9, n10, n11, n12, n13⟩, rfl, w0, ZB w1, ZB w2, ZB w3, by simpa using w4, u4, ZB w5, ZB w6, ZB w7, ZB w8, ZB w9, ZB w10, ZB w11, ZB w12, ZB w13⟩
theorem Zel {B v} (h : FitV Tryd.prog B 93 v) : ∃ x : Typ, v = Q2 x /\ x.wf B := by
 obtain ⟨k, cs, h, e⟩ := h.out;obtain ⟨x, rfl, hw⟩ := ZcF h;exact ⟨x, e.trans (by rw [VQ, if_pos (Xh ZhH)]; rfl), hw⟩
structure Stp where
 place : Int
 opn : Int
 cls : Int
 serv : Int
 deriving Inhabited
def ZlW (x : Stp) : List PV := [.int .i64 x.place, .int .i64 x.opn, .int .i64 x.cls, .int .i64 x.serv]
def Zoy (x : Stp) : PV := .agg [.int .i64 x.place, .int .i64 x.opn, .int .i64 x.cls, .int .i64 x.serv]
@[go_sem] theorem ZmZ (x : Stp) : Zoy x = .agg [.int .i64 x.place, .int .i64 x.opn, .int .i64 x.cls, .int .i64 x.serv] := Eq.trans rfl rfl
def Stp.wf (B : Nat) (x : Stp) : Prop := I64 x.place /\ I64 x.opn /\ I64 x.cls /\ I64 x.serv
theorem Ke {B m cs} (h : X4 Tryd.prog B m 81 cs) : ∃ x : Stp, cs = ZlW x /\ x.wf B := by
 obtain ⟨h1, m', h2⟩ := Xd ZnN ZhB h;obtain ⟨a0, a1, a2, a3, rfl⟩ := ZpA h1;obtain ⟨n0, e0, w0⟩ := Zh Tryd.underlying3 (h2 (0, 3) (by simp));obtain ⟨n1, e1, w1⟩ := Zh Tryd.underlying3 (h2 (1, 3) (by simp));obtain ⟨n2, e2, w2⟩ := Zh Tryd.underlying3 (h2 (2, 3) (by simp));obtain ⟨n3, e3, w3⟩ := Zh Tryd.underlying3 (h2 (3, 3) (by simp));simp [Zcj] at e0 e1 e2 e3;subst e0; subst e1; subst e2; subst e3;exact ⟨⟨n0, n1, n2, n3⟩, rfl, ZB w0, ZB w1, ZB w2, ZB w3⟩
theorem Zhc {B v} (h : FitV Tryd.prog B 133 v) : ∃ x : Int × Int, v = eP x /\ I64 x.1 /\ I64 x.2 := by
 obtain ⟨k, cs, h, e⟩ := h.out;obtain ⟨h1, m', h2⟩ := Xd Zdu Zhn h;obtain ⟨a, b, rfl⟩ := ZkT h1;obtain ⟨n0, e0, w0⟩ := Zh Tryd.underlying3 (h2 (0, 3) (by simp));obtain ⟨n1, e1, w1⟩ := Zh Tryd.underlying3 (h2 (1, 3) (by simp));simp [Zcj] at e0 e1;subst e0; subst e1;exact ⟨(n0, n1), e.trans (by rw [VQ, if_pos (Xh Zdu)]; rfl), ZB w0, ZB w1⟩
structure Ord where
 name : List UInt8
 load_c : Bool
 load : List (Int)
 pick : Stp
 drp : Stp
 skills : Int
 penalty : Int
 split : Int
 last : Int
 now : Int
 off : Bool
 deriving Inhabited
def Zq8 (x : Ord) : List PV := [.str x.name, .list x.load_c (x.load.map eI), .int .i64 x.pick.place, .int .i64 x.pick.opn, .int .i64 x.pick.cls, .int .i64 x.pick.serv, .int .i64 x.drp.place, .int .i64 x.drp.opn, .int .i64 x.drp.cls, .int .i64 x.drp.serv, .int .i64 x.skills, .int .i64 x.penalty, .int .i64 x.split, .int .i64 x.last, .int .i64 x.now, .bool x.off]
def Qa (x : Ord) : PV := .agg [.str x.name, .list x.load_c (x.load.map eI), .int .i64 x.pick.place, .int .i64 x.pick.opn, .int .i64 x.pick.cls, .int .i64 x.pick.serv, .int .i64 x.drp.place, .int .i64 x.drp.opn, .int .i64 x.drp.cls, .int .i64 x.drp.serv, .int .i64 x.skills, .int .i64 x.penalty, .int .i64 x.split, .int .i64 x.last, .int .i64 x.now, .bool x.off]
@[go_sem] theorem ZnT (x : Ord) : Qa x = .agg [.str x.name, .list x.load_c (x.load.map eI), .int .i64 x.pick.place, .int .i64 x.pick.opn, .int .i64 x.pick.cls, .int .i64 x.pick.serv, .int .i64 x.drp.place, .int .i64 x.drp.opn, .int .i64 x.drp.cls, .int .i64 x.drp.serv, .int .i64 x.skills, .int .i64 x.penalty, .int .i64 x.split, .int .i64 x.last, .int .i64 x.now, .bool x.off] := Eq.trans rfl rfl
def Ord.wf (B : Nat) (x : Ord) : Prop := x.name.length <= B /\ x.load.length <= B /\ (∀ n ∈ x.load, I64 n) /\ Stp.wf B x.pick /\ Stp.wf B x.drp /\ I64 x.skills /\ I64 x.penalty /\ I64 x.split /\ I64 x.last /\ I64 x.now
theorem Zdi {B m cs} (h : X4 Tryd.prog B m 83 cs) : ∃ x : Ord, cs = Zq8 x /\ x.wf B := by
 obtain ⟨h1, m', h2⟩ := Xd Zhp ZnC h;obtain ⟨a0, a1, a2, a3, a4, a5, a6, a7, a8, a9, a10, a11, a12, a13, a14, a15, rfl⟩ := Zl7 h1;obtain ⟨n0, e0, w0, _⟩ := Ut Tryd.underlying9 (h2 (0, 9) (by simp));obtain ⟨y1, e1, w1, _, z1⟩ := ZG Tryd.underlying39 (h2 (1, 39) (by simp));obtain ⟨n1, rfl, u1⟩ := Kf z1;obtain ⟨n2, e2, w2⟩ := Ke (h2 (2, 81) (by simp));obtain ⟨n3, e3, w3⟩ := Ke (h2 (6, 81) (by simp));obtain ⟨n4, e4, w4⟩ := Zh Tryd.underlying3 (h2 (10, 3) (by simp));obtain ⟨n5, e5, w5⟩ := Zh Tryd.underlying3 (h2 (11, 3) (by simp));obtain ⟨n6, e6, w6⟩ := Zh Tryd.underlying3 (h2 (12, 3) (by simp))
 obtain ⟨n7, e7, w7⟩ := Zh Tryd.underlying3 (h2 (13, 3) (by simp));obtain ⟨n8, e8, w8⟩ := Zh Tryd.underlying3 (h2 (14, 3) (by simp));obtain ⟨n9, e9⟩ := Vw Tryd.underlying4 (h2 (15, 4) (by simp));simp [Zg4, ZhB, ZoW, Zcj, Zp4, ZlW, ZlW] at e0 e1 e2 e3 e4 e5 e6 e7 e8 e9;subst e0; subst e1; obtain ⟨rfl, rfl, rfl, rfl⟩ := e2; obtain ⟨rfl, rfl, rfl, rfl⟩ := e3; subst e4; subst e5; subst e6; subst e7; subst e8; subst e9;exact ⟨⟨n0, false, n1, n2, n3, n4, n5, n6, n7, n8, n9⟩, rfl, w0, by simpa using w1, u1, w2, w3, ZB w4, ZB w5, ZB w6, ZB w7, ZB w8⟩
theorem ZeT {B v} (h : FitV Tryd.prog B 83 v) : ∃ x : Ord, v = Qa x /\ x.wf B := by
 obtain ⟨k, cs, h, e⟩ := h.out;obtain ⟨x, rfl, hw⟩ := Zdi h;exact ⟨x, e.trans (by rw [VQ, if_pos (Xh Zhp)]; rfl), hw⟩
structure Inst where
 net : Net
 types_c : Bool
 types : List (Typ)
 orders_c : Bool
 orders : List (Ord)
 apart_c : Bool
 apart : List (Int × Int)
 before_c : Bool
 before : List (Int × Int)
 deriving Inhabited
def Znr (x : Inst) : List PV := [.list x.net.places_c (x.net.places.map eS), .list x.net.arcs_c (x.net.arcs.map J0), .list x.types_c (x.types.map Q2), .list x.orders_c (x.orders.map Qa), .list x.apart_c (x.apart.map eP), .list x.before_c (x.before.map eP)]
def Xt (x : Inst) : PV := .agg [.list x.net.places_c (x.net.places.map eS), .list x.net.arcs_c (x.net.arcs.map J0), .list x.types_c (x.types.map Q2), .list x.orders_c (x.orders.map Qa), .list x.apart_c (x.apart.map eP), .list x.before_c (x.before.map eP)]
@[go_sem] theorem Zjr (x : Inst) : Xt x = .agg [.list x.net.places_c (x.net.places.map eS), .list x.net.arcs_c (x.net.arcs.map J0), .list x.types_c (x.types.map Q2), .list x.orders_c (x.orders.map Qa), .list x.apart_c (x.apart.map eP), .list x.before_c (x.before.map eP)] := Eq.trans rfl rfl
def Inst.wf (B : Nat) (x : Inst) : Prop := Net.wf B x.net /\ x.types.length <= B /\ (∀ y ∈ x.types, Typ.wf B y) /\ x.orders.length <= B /\ (∀ y ∈ x.orders, Ord.wf B y) /\ x.apart.length <= B /\ (∀ p ∈ x.apart, I64 p.1 /\ I64 p.2) /\ x.before.length <= B /\ (∀ p ∈ x.before, I64 p.1 /\ I64 p.2)
theorem Zba {B m cs} (h : X4 Tryd.prog B m 30 cs) : ∃ x : Inst, cs = Znr x /\ x.wf B := by
 obtain ⟨h1, m', h2⟩ := Xd ZgS Znw h;obtain ⟨a0, a1, a2, a3, a4, a5, rfl⟩ := ZpX h1;obtain ⟨n0, e0, w0⟩ := ZcS (h2 (0, 25) (by simp));obtain ⟨y1, e1, w1, _, z1⟩ := ZG Tryd.underlying26 (h2 (2, 26) (by simp));obtain ⟨n1, rfl, u1⟩ := Xg (f := Q2) fun y hy => Zel (z1 y hy);obtain ⟨y2, e2, w2, _, z2⟩ := ZG Tryd.underlying27 (h2 (3, 27) (by simp));obtain ⟨n2, rfl, u2⟩ := Xg (f := Qa) fun y hy => ZeT (z2 y hy);obtain ⟨y3, e3, w3, _, z3⟩ := ZG Tryd.underlying28 (h2 (4, 28) (by simp));obtain ⟨n3, rfl, u3⟩ := Xg (f := eP) fun y hy => Zhc (z3 y hy)
 obtain ⟨y4, e4, w4, _, z4⟩ := ZG Tryd.underlying28 (h2 (5, 28) (by simp));obtain ⟨n4, rfl, u4⟩ := Xg (f := eP) fun y hy => Zhc (z4 y hy);simp [Zn8, ZmY, Zoc, ZgQ, Zpe] at e0 e1 e2 e3 e4;obtain ⟨rfl, rfl⟩ := e0; subst e1; subst e2; subst e3; subst e4;exact ⟨⟨n0, false, n1, false, n2, false, n3, false, n4⟩, rfl, w0, by simpa using w1, u1, by simpa using w2, u2, by simpa using w3, u3, by simpa using w4, u4⟩
theorem Zc8 {B v} (h : FitV Tryd.prog B 30 v) : ∃ x : Inst, v = Xt x /\ x.wf B := by
 obtain ⟨k, cs, h, e⟩ := h.out;obtain ⟨x, rfl, hw⟩ := Zba h;exact ⟨x, e.trans (by rw [VQ, if_pos (Xh ZgS)]; rfl), hw⟩
structure Vis where
 order : Int
 drp : Bool
 deriving Inhabited
def ZqT (x : Vis) : List PV := [.int .i64 x.order, .bool x.drp]
def ZbK (x : Vis) : PV := .agg [.int .i64 x.order, .bool x.drp]
@[go_sem] theorem Znp (x : Vis) : ZbK x = .agg [.int .i64 x.order, .bool x.drp] := Eq.trans rfl rfl
def Vis.wf (B : Nat) (x : Vis) : Prop := I64 x.order
theorem ZcG {B m cs} (h : X4 Tryd.prog B m 157 cs) : ∃ x : Vis, cs = ZqT x /\ x.wf B := by
 obtain ⟨h1, m', h2⟩ := Xd Zee ZhU h;obtain ⟨a0, a1, rfl⟩ := ZkT h1;obtain ⟨n0, e0, w0⟩ := Zh Tryd.underlying3 (h2 (0, 3) (by simp));obtain ⟨n1, e1⟩ := Vw Tryd.underlying4 (h2 (1, 4) (by simp));simp [ZoW, Zcj] at e0 e1;subst e0; subst e1;exact ⟨⟨n0, n1⟩, rfl, ZB w0⟩
theorem Zfe {B v} (h : FitV Tryd.prog B 157 v) : ∃ x : Vis, v = ZbK x /\ x.wf B := by
 obtain ⟨k, cs, h, e⟩ := h.out;obtain ⟨x, rfl, hw⟩ := ZcG h;exact ⟨x, e.trans (by rw [VQ, if_pos (Xh Zee)]; rfl), hw⟩
structure Rte where
 typ : Int
 start : Int
 rests_c : Bool
 rests : List (Bool)
 visits_c : Bool
 visits : List (Vis)
 deriving Inhabited
def Zpr (x : Rte) : List PV := [.int .i64 x.typ, .int .i64 x.start, .list x.rests_c (x.rests.map eB), .list x.visits_c (x.visits.map ZbK)]
def ZbX (x : Rte) : PV := .agg [.int .i64 x.typ, .int .i64 x.start, .list x.rests_c (x.rests.map eB), .list x.visits_c (x.visits.map ZbK)]
@[go_sem] theorem Zoj (x : Rte) : ZbX x = .agg [.int .i64 x.typ, .int .i64 x.start, .list x.rests_c (x.rests.map eB), .list x.visits_c (x.visits.map ZbK)] := Eq.trans rfl rfl
def Rte.wf (B : Nat) (x : Rte) : Prop := I64 x.typ /\ I64 x.start /\ x.rests.length <= B /\ (∀ b ∈ x.rests, True) /\ x.visits.length <= B /\ (∀ y ∈ x.visits, Vis.wf B y)
theorem Zb8 {B m cs} (h : X4 Tryd.prog B m 49 cs) : ∃ x : Rte, cs = Zpr x /\ x.wf B := by
 obtain ⟨h1, m', h2⟩ := Xd Zon Zhe h;obtain ⟨a0, a1, a2, a3, rfl⟩ := ZpA h1;obtain ⟨n0, e0, w0⟩ := Zh Tryd.underlying3 (h2 (0, 3) (by simp));obtain ⟨n1, e1, w1⟩ := Zh Tryd.underlying3 (h2 (1, 3) (by simp));obtain ⟨y2, e2, w2, _, z2⟩ := ZG Tryd.underlying46 (h2 (2, 46) (by simp));obtain ⟨n2, rfl, u2⟩ := Zbx z2;obtain ⟨y3, e3, w3, _, z3⟩ := ZG Tryd.underlying47 (h2 (3, 47) (by simp));obtain ⟨n3, rfl, u3⟩ := Xg (f := ZbK) fun y hy => Zfe (z3 y hy);simp [ZlU, Zl4, Zcj] at e0 e1 e2 e3;subst e0; subst e1; subst e2; subst e3;exact ⟨⟨n0, n1, false, n2, false, n3⟩, rfl, ZB w0, ZB w1, by simpa using w2, u2, by simpa using w3, u3⟩
structure Sco where
 cost : Int
 moved : Int
 other : Int
 work : Int
 deriving Inhabited
def ZdQ (x : Sco) : PV := .agg [.int .i64 x.cost, .int .i64 x.moved, .int .i64 x.other, .int .i64 x.work]
@[go_sem] theorem Zn4 (x : Sco) : ZdQ x = .agg [.int .i64 x.cost, .int .i64 x.moved, .int .i64 x.other, .int .i64 x.work] := Eq.trans rfl rfl
structure Pln where
 routes_c : Bool
 routes : List (Rte)
 unserved_c : Bool
 unserved : List (Int)
 deriving Inhabited
def Qz (x : Pln) : PV := .agg [.list x.routes_c (x.routes.map ZbX), .list x.unserved_c (x.unserved.map eI)]
@[go_sem] theorem Zmx (x : Pln) : Qz x = .agg [.list x.routes_c (x.routes.map ZbX), .list x.unserved_c (x.unserved.map eI)] := Eq.trans rfl rfl
structure Col where
 typ : Int
 set : Int
 price : Int
 route : Rte
 deriving Inhabited
def ZqK (x : Col) : List PV := [.int .i64 x.typ, .int .i64 x.set, .int .i64 x.price, .int .i64 x.route.typ, .int .i64 x.route.start, .list x.route.rests_c (x.route.rests.map eB), .list x.route.visits_c (x.route.visits.map ZbK)]
def Xp (x : Col) : PV := .agg [.int .i64 x.typ, .int .i64 x.set, .int .i64 x.price, .int .i64 x.route.typ, .int .i64 x.route.start, .list x.route.rests_c (x.route.rests.map eB), .list x.route.visits_c (x.route.visits.map ZbK)]
@[go_sem] theorem Zmd (x : Col) : Xp x = .agg [.int .i64 x.typ, .int .i64 x.set, .int .i64 x.price, .int .i64 x.route.typ, .int .i64 x.route.start, .list x.route.rests_c (x.route.rests.map eB), .list x.route.visits_c (x.route.visits.map ZbK)] := Eq.trans rfl rfl
@[go_sem] theorem ZgU (l : List Col) : Zch 7 (l.map Xp) = true := Zdd (f := Xp) (S := 7) (fun _ => rfl) l
def Col.wf (B : Nat) (x : Col) : Prop := I64 x.typ /\ I64 x.set /\ I64 x.price /\ Rte.wf B x.route
theorem Zdq {B m cs} (h : X4 Tryd.prog B m 51 cs) : ∃ x : Col, cs = ZqK x /\ x.wf B := by
 obtain ⟨h1, m', h2⟩ := Xd Zg0 Zl9 h;obtain ⟨a0, a1, a2, a3, a4, a5, a6, rfl⟩ := Zqw h1;obtain ⟨n0, e0, w0⟩ := Zh Tryd.underlying3 (h2 (0, 3) (by simp));obtain ⟨n1, e1, w1⟩ := Zh Tryd.underlying3 (h2 (1, 3) (by simp));obtain ⟨n2, e2, w2⟩ := Zh Tryd.underlying3 (h2 (2, 3) (by simp));obtain ⟨n3, e3, w3⟩ := Zb8 (h2 (3, 49) (by simp));simp [Zhe, Zcj, Zpr] at e0 e1 e2 e3;subst e0; subst e1; subst e2; obtain ⟨rfl, rfl, rfl, rfl⟩ := e3;exact ⟨⟨n0, n1, n2, n3⟩, rfl, ZB w0, ZB w1, ZB w2, w3⟩
theorem Zfd {B v} (h : FitV Tryd.prog B 51 v) : ∃ x : Col, v = Xp x /\ x.wf B := by
 obtain ⟨k, cs, h, e⟩ := h.out;obtain ⟨x, rfl, hw⟩ := Zdq h;exact ⟨x, e.trans (by rw [VQ, if_pos (Xh Zg0)]; rfl), hw⟩
theorem own : ownKnob Tryd.prog.godebug = none := by kernel_rfl
theorem ZfF : laidOutB Tryd.prog = true := by kernel_rfl
abbrev Flt := Int × List UInt8
def eF (f : Flt) : PV := .agg [.int .i64 f.1, .str f.2]
@[go_sem] theorem Zrr (f : Flt) : eF f = .agg [.int .i64 f.1, .str f.2] := Eq.trans rfl rfl
@[go_sem] theorem Zpm (l : List Flt) : okE 2 (l.map eF) = true := Zad fun _ => rfl
def dec (n : Nat) : List UInt8 := if h : n < 10 then [UInt8.ofNat (48 + n)] else dec (n / 10) ++ [UInt8.ofNat (48 + n % 10)]
termination_by n
decreasing_by omega
theorem ZaL : ∀ (k n : Nat), n < k -> (dec n).length <= n + 1 := by
 intro k
 induction k with
 | zero => intro n h; omega
 | succ k ih =>
  intro n h;rw [dec]
  split
  ·simp
  ·have := ih (n / 10) (by omega);simp;omega
theorem Ww : ∀ (d n : Nat), n < 10 ^ (d + 1) -> (dec n).length <= d + 1 := by
 intro d
 induction d with
 | zero => intro n h; rw [dec, dif_pos (by omega)]; simp
 | succ d ih =>
  intro n h;rw [dec]
  split
  ·simp
  ·have := ih (n / 10) (by rw [Nat.div_lt_iff_lt_mul (by omega)]; rw [Nat.pow_succ] at h; exact h);simp;omega
def QK (n : Int) : List UInt8 := if n < 0 then 45 :: dec n.natAbs else dec n.natAbs
theorem Yt (n : Int) (h : I64 n) : (QK n).length <= 20 := by
 have h1 : n.natAbs < 10 ^ (18 + 1) := by omega
 have := Ww 18 n.natAbs h1;unfold QK
 split <;> simp <;> omega
structure FR {α : Type} (p : α -> Prop) (C : Prop) (b : Nat) (l : List α) : Prop where
 len : l.length <= b
 emp : l = [] ↔ C
 all : ∀ x ∈ l, p x
theorem FR.nil {α : Type} {p : α -> Prop} {C : Prop} {b : Nat} (h : C) : FR p C b [] := ⟨by simp, by simp [h], by simp⟩
theorem FR.no {α : Type} {p : α -> Prop} {C c : Prop} {b : Nat} {l : List α} (h : FR p C b l) (hc : c) : FR p (C /\ c) (b + 1) l := ⟨by have := h.len; omega, by rw [h.emp]; simp [hc], h.all⟩
theorem FR.yes {α : Type} {p : α -> Prop} {C c : Prop} {b : Nat} {l : List α} {x : α} (h : FR p C b l) (hc : ¬ c) (hx : p x) : FR p (C /\ c) (b + 1) (l ++ [x]) :=
 ⟨by have := h.len; simp; omega, by simp [hc], fun y hy => by
  rcases List.mem_append.1 hy with hy | hy
  ·exact h.all y hy
  ·simp at hy; subst hy; exact hx⟩
theorem FR.app {α : Type} {p : α -> Prop} {C D : Prop} {b d : Nat} {l m : List α} (h : FR p C b l) (k : FR p D d m) : FR p (C /\ D) (b + d) (l ++ m) :=
 ⟨by have := h.len; have := k.len; simp; omega, by rw [List.append_eq_nil_iff, h.emp, k.emp], fun y hy => by
  rcases List.mem_append.1 hy with hy | hy
  ·exact h.all y hy
  ·exact k.all y hy⟩
theorem FR.to {α : Type} {p : α -> Prop} {C D : Prop} {b d : Nat} {l : List α} (h : FR p C b l) (hb : b <= d) (hc : C ↔ D) : FR p D d l := ⟨Nat.le_trans h.len hb, h.emp.trans hc, h.all⟩
theorem Zu {p : Nat -> Prop} {k : Nat} : (∀ j, j < k + 1 -> p j) ↔ ((∀ j, j < k -> p j) /\ p k) :=
 ⟨fun h => ⟨fun j hj => h j (by omega), h k (by omega)⟩, fun h j hj => by
  rcases Nat.lt_or_ge j k with h1 | h1
  ·exact h.1 j h1
  ·have : j = k := by omega
   rw [this]; exact h.2⟩
def Ym (c : UInt8) : Bool := decide (48 <= c.toNat /\ c.toNat <= 57)
def X1 (c : UInt8) : Bool := decide (97 <= c.toNat /\ c.toNat <= 122) || decide (65 <= c.toNat /\ c.toNat <= 90) || decide (c.toNat = 95)
def nameOk (s : List UInt8) : Bool := decide (1 <= s.length) && decide (s.length <= 16) && !Ym (nth s 0) && s.all fun c => X1 c || Ym c
def rng (n lo hi : Int) : Bool := decide (lo <= n /\ n <= hi)
def Zef (n : Int) : Bool := rng n 0 4096
def Zgx (l : List Pt) (i : Nat) : Prop := (0 <= (nth l i).t /\ (nth l i).t <= 4096 /\ (nth l i).t <= (nth l i).a /\ (nth l i).a <= (nth l i).t + 4096) /\ (0 < i -> (nth l (i - 1)).t < (nth l i).t /\ (nth l (i - 1)).a <= (nth l i).a)
def U5 (l : List Pt) : Prop := (1 <= l.length /\ l.length <= 16) /\ ∀ i, i < l.length -> Zgx l i
def VI (l : List Pt) (i : Nat) : Prop := Zef (nth l i).t = true /\ Zef (nth l i).a = true /\ (0 < i -> (nth l (i - 1)).t < (nth l i).t)
def Zcm (n : Net) (i : Nat) : Prop :=
 ((((((0 <= (nth n.arcs i).src /\ (nth n.arcs i).src < n.places.length /\ 0 <= (nth n.arcs i).dst /\ (nth n.arcs i).dst < n.places.length) /\
 (0 <= (nth n.arcs i).prof /\ (nth n.arcs i).prof <= 7 /\ 0 <= (nth n.arcs i).miles /\ (nth n.arcs i).miles <= 10000 /\ (nth n.arcs i).src ≠ (nth n.arcs i).dst)) /\
 (∀ k, k < i -> ¬ ((nth n.arcs i).src = (nth n.arcs k).src /\ (nth n.arcs i).dst = (nth n.arcs k).dst /\ (nth n.arcs i).prof = (nth n.arcs k).prof))) /\
 U5 (nth n.arcs i).travel) /\ (nth n.arcs i).slow.length <= 16) /\ ∀ k, k < (nth n.arcs i).slow.length -> VI (nth n.arcs i).slow k)
def Zfx (n : Net) (i : Nat) : Prop := nameOk (nth n.places i) = true /\ ∀ k, k < i -> nth n.places k ≠ nth n.places i
def Y4 (n : Net) : Prop := n.places.length <= 24 /\ ∀ i, i < n.places.length -> Zfx n i
def netOk (n : Net) : Prop := (Y4 n /\ n.arcs.length <= 1024) /\ ∀ i, i < n.arcs.length -> Zcm n i
set_option maxRecDepth 8000
set_option maxHeartbeats 4000000
theorem Zao (c : UInt8) : PC 86 [.p (.int .u8 (c.toNat : Nat))] (.bool (Ym c)) := by
 refine Zb Tryd.func86 rfl Zn1 ?_;simp (disch := omega) only [Tryd.f86, go_sem, seval];refine gT ?_ ?_ <;> intro h <;> simp (disch := omega) only [Sh.out h, go_sem, seval]
 all_goals (simp [Ym]; first | done | omega | (rw [Bool.eq_iff_iff]; simp; omega))
theorem Zc2 (c : UInt8) : PC 87 [.p (.int .u8 (c.toNat : Nat))] (.bool (X1 c)) := by
 refine Zb Tryd.func87 rfl Zmb ?_;simp (disch := omega) only [Tryd.f87, go_sem, seval]
 repeat' (first | (refine ZI (fun hq => ?_) (fun hq => ?_) <;> (try simp only [decide_eq_true_eq, decide_eq_false_iff_not, Classical.not_not] at hq) <;> simp (disch := omega) only [Sh.out hq, go_sem, seval]) | (refine ZJ (fun hq => ?_) (fun hq => ?_) <;> (try simp only [decide_eq_true_eq, decide_eq_false_iff_not, Classical.not_not] at hq) <;> simp (disch := omega) only [Sh.out hq, go_sem, seval]) | (refine ZV (fun hq => ?_) (fun hq => ?_) <;> (try simp only [decide_eq_true_eq, decide_eq_false_iff_not, Classical.not_not] at hq) <;> simp (disch := omega) only [Sh.out hq, go_sem, seval]))
 all_goals (simp [X1]; first | done | omega | (rw [Bool.eq_iff_iff]; simp; omega))
theorem ZaB (s : List UInt8) (hs : s.length <= 1048576) : PC 54 [.p (.str s)] (.bool (nameOk s)) := by
 refine Zb Tryd.func54 rfl Zl8 ?_;simp (disch := omega) only [Tryd.f54, go_sem, seval];refine gF ?_ ?_ <;> intro h <;> simp (disch := omega) only [Sh.out h, go_sem, seval]
 ·have : ¬ 1 <= s.length := by omega
  simp [nameOk, this]
 ·refine gF ?_ ?_ <;> intro h2 <;> simp (disch := omega) only [Sh.out h2, go_sem, seval]
  ·have : ¬ s.length <= 16 := by omega
   simp [nameOk, this]
  ·have g1 : 1 <= s.length := by omega
   have g2 : s.length <= 16 := by omega
   refine (Zao (nth s 0)).use ?_;simp (disch := omega) only [go_sem, seval];refine cD ?_ ?_ <;> intro h3 <;> simp (disch := omega) only [Sh.out h3, go_sem, seval]
   ·simp [nameOk, h3]
   ·refine Zi [0] (fun k : Nat => [(3, .p (.int .i64 k))]) (fun _ => []) (fun k => k <= s.length /\ ∀ j, j < k -> (X1 (nth s j) || Ym (nth s j)) = true) (fun k => s.length - k) 0 (by simp) (Weak.mk ?_) ?_
    ·simp (disch := omega) only [go_sem, seval]
    ·rintro k ⟨hk, hno⟩;simp (disch := omega) only [go_sem, seval]
     have Yg : ∀ j, j < s.length -> (X1 (nth s j) || Ym (nth s j)) = false -> nameOk s = false := fun j hj e => by
      have : s.all (fun c => X1 c || Ym c) = false := by
       rw [List.all_eq_false];exact ⟨nth s j, by rw [Zm hj]; exact List.getElem_mem _, by rw [e]; simp⟩
      simp [nameOk, this]
     refine cD ?_ ?_ <;> intro h4 <;> simp (disch := omega) only [Sh.out h4, go_sem, seval]
     ·have hk2 : k < s.length := by omega
      refine (Zc2 (nth s k)).use ?_;simp (disch := omega) only [go_sem, seval];refine gT ?_ ?_ <;> intro h5 <;> simp (disch := omega) only [Sh.out h5, go_sem, seval]
      ·refine (Zao (nth s k)).use ?_;simp (disch := omega) only [go_sem, seval];refine cD ?_ ?_ <;> intro h6 <;> simp (disch := omega) only [Sh.out h6, go_sem, seval]
       ·simp only [Bool.not_eq_true'] at h5 h6;rw [Yg k hk2 (by rw [h5, h6]; rfl)]
       ·simp only [Bool.not_eq_false'] at h6;exact ⟨k + 1, ⟨by omega, Zu.2 ⟨hno, by simp [h6]⟩⟩, by omega, wk⟩
      ·simp only [Bool.not_eq_false'] at h5;exact ⟨k + 1, ⟨by omega, Zu.2 ⟨hno, by simp [h5]⟩⟩, by omega, wk⟩
     ·have : s.all (fun c => X1 c || Ym c) = true := by
       rw [List.all_eq_true];intro c hc;obtain ⟨j, hj, rfl⟩ := List.mem_iff_getElem.1 hc;rw [<- Zm hj]; exact hno j (by omega)
      simp [nameOk, g1, g2, h3, this]
theorem Wh (n : Int) (hn : I64 n) : PC 35 [.p (.int .i64 n)] (.str (QK n)) := by
 refine Zb Tryd.func35 rfl Znv ?_;simp (disch := omega) only [Tryd.f35, go_sem, seval]
 have h19 : n.natAbs < 10 ^ (18 + 1) := by omega
 have hdl := Ww 18 n.natAbs h19
 refine Xv [7] [0] (fun q : Int × List UInt8 × Bool => [(3, .p (.str q.2.1)), (4, .p (.int .i64 q.1)), (5, .p (.bool q.2.2))]) (fun _ => [])
  (fun q => I64 q.1 /\ (q.2.2 = true -> dec q.1.natAbs ++ q.2.1 = dec n.natAbs) /\ (q.2.2 = false -> q.2.1 = dec n.natAbs)) (fun q => if q.2.2 then q.1.natAbs + 1 else 0) (n, [], true) (by simp; omega) (Weak.mk ?_) ?_
 ·simp (disch := omega) only [go_sem, seval]
 ·rintro ⟨m, s, again⟩ ⟨hm, h1, h2⟩;simp only at hm h1 h2;simp (disch := omega) only [go_sem, seval]
  cases again with
  | false =>
   simp (disch := omega) only [go_sem, seval];have h2 := h2 rfl
   have hl2 : ([45] : List UInt8).length + (dec n.natAbs).length <= 9223372036854775807 := by simp; omega
   refine cD ?_ ?_ <;> intro h3 <;> simp (disch := omega) only [Sh.out h3, go_sem, seval]
   ·simp (disch := omega) only [QK, h2, h3, Zdp hl2, go_sem, seval]
   ·simp (disch := omega) only [QK, h2, h3, go_sem, seval]
  | true =>
   have h1 := h1 rfl
   have hls : (dec m.natAbs).length + s.length = (dec n.natAbs).length := by rw [<- h1]; simp
   simp (disch := omega) only [go_sem, seval]
   have e1 : (m.tmod 10).natAbs = m.natAbs % 10 := by rw [Int.natAbs_tmod]; rfl
   have e2 : (m.tdiv 10).natAbs = m.natAbs / 10 := by rw [Int.natAbs_tdiv]; rfl
   have e3 : m.tmod 10 < 10 /\ -10 < m.tmod 10 := ⟨Int.tmod_lt_of_pos _ (by decide), by omega⟩;refine Zo [0, 3, 4] (fun _ : Unit => [(6, .p (.int .i64 ((m.natAbs % 10 : Nat) : Int)))]) (fun _ => []) (fun _ => True) ?_ ?_
   ·simp (disch := omega) only [go_sem, seval];refine cD ?_ ?_ <;> intro h3 <;> simp (disch := omega) only [Sh.out h3, go_sem, seval]
    ·exact ⟨(), Weak.mk (by simp (disch := omega) only [go_sem, seval]; simp; omega)⟩
    ·exact ⟨(), Weak.mk (by simp (disch := omega) only [go_sem, seval]; simp; omega)⟩
   ·intro _ _;refine Za [] _ _ _ _ ?_;simp (disch := first | omega | (simp only [List.length_cons, List.length_nil, List.length_append, List.length_map, List.length_take, List.length_drop] <;> omega)) only [go_sem, seval]
    have e4 : (48 + ((m.natAbs % 10 : Nat) : Int)).toNat = 48 + m.natAbs % 10 := by omega
    refine ⟨(m.tdiv 10, UInt8.ofNat (48 + m.natAbs % 10) :: s, decide (m.tdiv 10 ≠ 0)), ⟨?_, ?_, ?_⟩, ?_, Weak.mk ?_⟩
    ·simp only; omega
    ·simp only [decide_eq_true_eq];intro hne
     have h10 : ¬ m.natAbs < 10 := by omega
     rw [e2, <- h1, dec.eq_def m.natAbs, dif_neg h10];simp
    ·simp only [decide_eq_false_iff_not, Classical.not_not];intro hz
     have h10 : m.natAbs < 10 := by omega
     rw [<- h1, dec.eq_def m.natAbs, dif_pos h10, Nat.mod_eq_of_lt h10];simp
    ·simp only [if_true]
     split
     ·rename_i hne;simp only [decide_eq_true_eq] at hne;omega
     ·omega
    ·simp (disch := omega) only [e4, go_sem, seval]
def pF (k : Nat) (f : Flt) : Prop := f.2.length <= k
theorem Zix (l : List Pt) (c : Bool) (hl : l.length <= 1048576) : ACalls Tryd.prog 55 [.p (.list c (l.map ePt))] [] fun x H' => ∃ m : List Flt, FR (pF 20) (U5 l) (2 * l.length + 1) m /\ x = .sl 0 0 m.length m.length /\ H' = [.elems 2 (m.map eF)] := by
 refine ZD [2] Tryd.func55 rfl Zmh ?_;simp (disch := omega) only [Tryd.f55, go_sem, seval];refine Zr (Weak.ofNil 3 2 (by simp (disch := omega) only [go_sem, seval]) (by simp) (Weak.refl _ _ _)) ?_;refine Zo [0] (fun m : List Flt => [(3, .sl 0 0 m.length m.length)]) (fun m => [.elems 2 (m.map eF)]) (fun m => FR (pF 20) (1 <= l.length /\ l.length <= 16) 1 m) ?_ ?_
 ·simp (disch := omega) only [go_sem, seval]
  repeat' (first | (refine ZI (fun hq => ?_) (fun hq => ?_) <;> (try simp only [decide_eq_true_eq, decide_eq_false_iff_not, Classical.not_not] at hq) <;> simp (disch := omega) only [Sh.out hq, go_sem, seval]) | (refine ZJ (fun hq => ?_) (fun hq => ?_) <;> (try simp only [decide_eq_true_eq, decide_eq_false_iff_not, Classical.not_not] at hq) <;> simp (disch := omega) only [Sh.out hq, go_sem, seval]) | (refine ZV (fun hq => ?_) (fun hq => ?_) <;> (try simp only [decide_eq_true_eq, decide_eq_false_iff_not, Classical.not_not] at hq) <;> simp (disch := omega) only [Sh.out hq, go_sem, seval]))
  ·exact ⟨[(4, [])], ⟨by simp, by simp; omega, by simp [pF]⟩, wk⟩
  ·exact ⟨[(4, [])], ⟨by simp, by simp; omega, by simp [pF]⟩, wk⟩
  ·exact ⟨[], FR.nil (by omega), wk⟩
 ·intro m hm;refine Za [] _ _ _ _ ?_;simp (disch := omega) only [go_sem, seval];refine Xv [8] [0] (fun q : Nat × List Flt => [(3, .sl 0 0 q.2.length q.2.length), (4, .p (.int .i64 q.1))]) (fun q => [.elems 2 (q.2.map eF)]) (fun q => q.1 <= l.length /\ FR (pF 20) ((1 <= l.length /\ l.length <= 16) /\ ∀ j, j < q.1 -> Zgx l j) (2 * q.1 + 1) q.2) (fun q => l.length - q.1) (0, m) ⟨by simp, hm.to (by simp) (by simp)⟩ (Weak.mk ?_) ?_
  ·simp (disch := omega) only [go_sem, seval]
  ·rintro ⟨k, m⟩ ⟨hk, hm⟩;simp only at hk hm;have hml := hm.len;simp (disch := omega) only [go_sem, seval];refine cD ?_ ?_ <;> intro h <;> simp (disch := omega) only [Sh.out h, go_sem, seval]
   ·have hk2 : k < l.length := by omega
    refine Zo [0, 4, 5] (fun m : List Flt => [(3, .sl 0 0 m.length m.length)]) (fun m => [.elems 2 (m.map eF), .cells [.p (.int .i64 (nth l k).t), .p (.int .i64 (nth l k).a)]])
     (fun m => FR (pF 20) (((1 <= l.length /\ l.length <= 16) /\ ∀ j, j < k -> Zgx l j) /\ (0 <= (nth l k).t /\ (nth l k).t <= 4096 /\ (nth l k).t <= (nth l k).a /\ (nth l k).a <= (nth l k).t + 4096)) (2 * k + 1 + 1) m) ?_ ?_
    ·simp (disch := omega) only [go_sem, seval]
     have hI : I64 (k : Int) := by omega
     have hdl := Yt k hI
     repeat' (first | (refine ZI (fun hq => ?_) (fun hq => ?_) <;> (try simp only [decide_eq_true_eq, decide_eq_false_iff_not, Classical.not_not] at hq) <;> simp (disch := omega) only [Sh.out hq, go_sem, seval]) | (refine ZJ (fun hq => ?_) (fun hq => ?_) <;> (try simp only [decide_eq_true_eq, decide_eq_false_iff_not, Classical.not_not] at hq) <;> simp (disch := omega) only [Sh.out hq, go_sem, seval]) | (refine ZV (fun hq => ?_) (fun hq => ?_) <;> (try simp only [decide_eq_true_eq, decide_eq_false_iff_not, Classical.not_not] at hq) <;> simp (disch := omega) only [Sh.out hq, go_sem, seval]))
     all_goals try exact ⟨m, hm.no (by omega), wk⟩
     all_goals
      refine (Wh k hI).use ?_;simp (disch := omega) only [go_sem, seval];exact ⟨m ++ [(2, QK k)], hm.yes (by omega) (by simp only [pF]; omega), wk⟩
    ·intro m hm;have hml := hm.len;refine Za [] _ _ _ _ ?_;simp (disch := omega) only [go_sem, seval]
     have hI : I64 (k : Int) := by omega
     have hdl := Yt k hI;refine Zf mixed (by kernel_rfl) (by kernel_rfl) ?_;simp (disch := omega) only [go_sem, seval]
     repeat' (first | (refine ZI (fun hq => ?_) (fun hq => ?_) <;> (try simp only [decide_eq_true_eq, decide_eq_false_iff_not, Classical.not_not] at hq) <;> simp (disch := omega) only [Sh.out hq, go_sem, seval]) | (refine ZJ (fun hq => ?_) (fun hq => ?_) <;> (try simp only [decide_eq_true_eq, decide_eq_false_iff_not, Classical.not_not] at hq) <;> simp (disch := omega) only [Sh.out hq, go_sem, seval]) | (refine ZV (fun hq => ?_) (fun hq => ?_) <;> (try simp only [decide_eq_true_eq, decide_eq_false_iff_not, Classical.not_not] at hq) <;> simp (disch := omega) only [Sh.out hq, go_sem, seval]))
     all_goals try exact ⟨(k + 1, m), ⟨by simp only; omega, (hm.no (c := 0 < k -> (nth l (k - 1)).t < (nth l k).t /\ (nth l (k - 1)).a <= (nth l k).a) (by omega)).to (by simp only; omega) (by simp only [Zu, Zgx, and_assoc])⟩, by simp only; omega, wk⟩
     all_goals
      refine (Wh k hI).use ?_;simp (disch := omega) only [go_sem, seval];exact ⟨(k + 1, m ++ [(13, QK k)]), ⟨by simp only; omega, (hm.yes (c := 0 < k -> (nth l (k - 1)).t < (nth l k).t /\ (nth l (k - 1)).a <= (nth l k).a) (by omega) (by simp only [pF]; omega)).to (by simp only; omega) (by simp only [Zu, Zgx, and_assoc])⟩, by simp only; omega, wk⟩
   ·have hkn : k = l.length := by omega
    subst hkn;exact ⟨m, hm.to (by omega) (by rw [U5]), 0, by simp (disch := omega) only [go_sem, seval]⟩
set_option maxHeartbeats 8000000
theorem pF.mono {j k : Nat} (h : j <= k) {f : Flt} (hf : pF j f) : pF k f := Nat.le_trans hf h
theorem FR.pmono {α : Type} {p q : α -> Prop} {C : Prop} {b : Nat} {l : List α} (h : FR p C b l) (hp : ∀ x, p x -> q x) : FR q C b l := ⟨h.len, h.emp, fun x hx => hp x (h.all x hx)⟩
theorem JW (n : Int) : PC 56 [.p (.int .i64 n)] (.bool (Zef n)) := by
 refine Zb Tryd.func56 rfl Zng ?_;simp (disch := omega) only [Tryd.f56, go_sem, seval]
 repeat' (first | (refine ZI (fun hq => ?_) (fun hq => ?_) <;> (try simp only [decide_eq_true_eq, decide_eq_false_iff_not, Classical.not_not] at hq) <;> simp (disch := omega) only [Sh.out hq, go_sem, seval]) | (refine ZJ (fun hq => ?_) (fun hq => ?_) <;> (try simp only [decide_eq_true_eq, decide_eq_false_iff_not, Classical.not_not] at hq) <;> simp (disch := omega) only [Sh.out hq, go_sem, seval]) | (refine ZV (fun hq => ?_) (fun hq => ?_) <;> (try simp only [decide_eq_true_eq, decide_eq_false_iff_not, Classical.not_not] at hq) <;> simp (disch := omega) only [Sh.out hq, go_sem, seval]))
 all_goals (simp [Zef, rng]; first | done | omega | (rw [Bool.eq_iff_iff]; simp; omega))
def Zt (n : Net) : List AM.Obj := [.cells [.p (.list n.places_c (n.places.map eS)), .p (.list n.arcs_c (n.arcs.map J0))]]
theorem Kx (n : Net) (hp : n.places.length <= 1048576) (hs : ∀ s ∈ n.places, s.length <= 1048576) : ACalls Tryd.prog 31 [.p (Zec n)] [] fun x H' => ∃ m : List Flt, FR (pF 26) (Y4 n) (n.places.length + 1) m /\ x = .sl 0 0 m.length m.length /\ H' = [.elems 2 (m.map eF)] := by
 refine ZD [2] Tryd.func31 rfl Zmz ?_;simp (disch := omega) only [Tryd.f31, go_sem, seval];refine Zr (Weak.ofNil 3 2 (by simp (disch := omega) only [go_sem, seval]) (by simp) (Weak.refl _ _ _)) ?_;refine Zo [1] (fun m : List Flt => [(3, .sl 1 0 m.length m.length)]) (fun m => Zt n ++ [.elems 2 (m.map eF)]) (fun m => FR (pF 26) (n.places.length <= 24) 1 m) ?_ ?_
 ·simp (disch := omega) only [go_sem, seval];refine cD ?_ ?_ <;> intro h <;> simp (disch := omega) only [Sh.out h, go_sem, seval]
  ·exact ⟨[(4, [112, 108, 97, 99, 101, 115])], ⟨by simp, by simp; omega, by simp [pF]⟩, Weak.mk (by simp (disch := omega) only [Zt, go_sem, seval])⟩
  ·exact ⟨[], FR.nil (by omega), Weak.mk (by simp (disch := omega) only [Zt, go_sem, seval])⟩
 ·intro m hm;refine Za [] _ _ _ _ ?_;simp (disch := omega) only [Zt, go_sem, seval];refine Zi [1] (fun q : Nat × List Flt => [(3, .sl 1 0 q.2.length q.2.length), (4, .p (.int .i64 q.1))]) (fun q => Zt n ++ [.elems 2 (q.2.map eF)]) (fun q => q.1 <= n.places.length /\ FR (pF 26) (n.places.length <= 24 /\ ∀ j, j < q.1 -> Zfx n j) (q.1 + 1) q.2) (fun q => n.places.length - q.1) (0, m) ⟨by simp, hm.to (by simp) (by simp)⟩ (Weak.mk ?_) ?_
  ·simp (disch := omega) only [Zt, go_sem, seval]
  ·rintro ⟨k, m⟩ ⟨hk, hm⟩;simp only at hk hm;have hml := hm.len;simp (disch := omega) only [Zt, go_sem, seval];refine cD ?_ ?_ <;> intro h <;> simp (disch := omega) only [Sh.out h, go_sem, seval]
   ·have hk2 : k < n.places.length := by omega
    have hI : I64 (k : Int) := by omega
    have hdl := Yt k hI;refine (Wh k hI).use ?_;simp (disch := omega) only [go_sem, seval];simp (disch := first | omega | (simp only [List.length_cons, List.length_nil, List.length_append, List.length_map, List.length_take, List.length_drop] <;> omega)) only [go_sem, seval];refine (ZaB (nth n.places k) (hs _ (by rw [Zm hk2]; exact List.getElem_mem _))).use ?_;simp (disch := omega) only [go_sem, seval];refine cD ?_ ?_ <;> intro h2 <;> simp (disch := omega) only [Sh.out h2, go_sem, seval]
    ·simp only [Bool.not_eq_true'] at h2;exact ⟨(k + 1, m ++ [(5, [112, 108, 97, 99, 101, 32] ++ QK k)]), ⟨by simp only; omega, (hm.yes (c := Zfx n k) (by rw [Zfx, h2]; simp) (by simp [pF]; omega)).to (by simp) (by simp only [Zu, and_assoc])⟩, by simp only; omega, Weak.mk (by simp (disch := omega) only [Zt, go_sem, seval])⟩
    ·simp only [Bool.not_eq_false'] at h2;refine Zi [1, 3, 4, 5] (fun q : Nat × Bool => [(6, .p (.bool q.2)), (7, .p (.int .i64 q.1))]) (fun _ => Zt n ++ [.elems 2 (m.map eF)]) (fun q => q.1 <= k /\ (q.2 = false ↔ ∀ j, j < q.1 -> nth n.places j ≠ nth n.places k)) (fun q => k - q.1) (0, false) (by simp) (Weak.mk ?_) ?_
     ·simp (disch := omega) only [Zt, go_sem, seval]
     ·rintro ⟨j, b⟩ ⟨hj, hb⟩;simp only at hj hb;simp (disch := omega) only [Zt, go_sem, seval];refine cD ?_ ?_ <;> intro h3 <;> simp (disch := omega) only [Sh.out h3, go_sem, seval]
      ·refine ZU 14 mixed (by kernel_rfl) (by kernel_rfl) ?_;simp (disch := omega) only [go_sem, seval]
       have hjn : j < n.places.length := by omega
       cases b with
       | true =>
        simp (disch := omega) only [go_sem, seval];exact ⟨(j + 1, true), ⟨by simp only; omega, by rw [Zu, <- hb]; simp⟩, by simp only; omega, Weak.mk (by simp (disch := omega) only [Zt, go_sem, seval])⟩
       | false =>
        simp (disch := omega) only [go_sem, seval];refine ⟨(j + 1, decide (nth n.places j = nth n.places k)), ⟨by simp only; omega, by rw [Zu, <- hb]; simp⟩, by simp only; omega, Weak.mk (by simp (disch := omega) only [Zt, go_sem, seval])⟩
      ·have hjk : j = k := by omega
       subst hjk
       cases b with
       | true =>
        simp (disch := omega) only [go_sem, seval]
        have hno : ¬ Zfx n j := fun h5 => by have := hb.2 h5.2; cases this
        exact ⟨(j + 1, m ++ [(6, [112, 108, 97, 99, 101, 32] ++ QK j)]), ⟨by simp only; omega, (hm.yes (c := Zfx n j) hno (by simp [pF]; omega)).to (by simp) (by simp only [Zu, and_assoc])⟩, by simp only; omega, Weak.mk (by simp (disch := omega) only [Zt, go_sem, seval])⟩
       | false =>
        simp (disch := omega) only [go_sem, seval];exact ⟨(j + 1, m), ⟨by simp only; omega, (hm.no (c := Zfx n j) ⟨h2, hb.1 rfl⟩).to (by simp) (by simp only [Zu, and_assoc])⟩, by simp only; omega, Weak.mk (by simp (disch := omega) only [Zt, go_sem, seval])⟩
   ·have hkn : k = n.places.length := by omega
    subst hkn;exact ⟨m, hm.to (by omega) (by rw [Y4]), 1, by simp (disch := omega) only [go_sem, seval]⟩
set_option maxHeartbeats 16000000
def Yv (a : Arc) : AM.Obj := .cells [.p (.int .i64 a.src), .p (.int .i64 a.dst), .p (.int .i64 a.prof), .p (.int .i64 a.miles), .p (.list a.travel_c (a.travel.map ePt)), .p (.list a.slow_c (a.slow.map ePt))]
abbrev Xb (a b : Arc) : Prop := a.src = b.src /\ a.dst = b.dst /\ a.prof = b.prof
theorem ZeZ (n : Net) (i : Nat) (hi : i < n.arcs.length) (hp : n.places.length <= 1048576) (ha : n.arcs.length <= 1048576) (ht : (nth n.arcs i).travel.length <= 1048576) (hsl : (nth n.arcs i).slow.length <= 1048576) :
  ACalls Tryd.prog 32 [.p (Zec n), .p (.int .i64 (i : Nat))] [] fun x H' => ∃ m : List Flt, FR (pF 26) (Zcm n i) 4000000 m /\ x = .sl 0 0 m.length m.length /\ H' = [.elems 2 (m.map eF)] := by
 refine ZD [4] Tryd.func32 rfl ZnH ?_;simp (disch := omega) only [Tryd.f32, go_sem, seval]
 have hI : I64 (i : Int) := by omega
 have hdl := Yt i hI;refine (Wh i hI).use ?_;simp (disch := omega) only [go_sem, seval];simp (disch := first | omega | (simp only [List.length_cons, List.length_nil, List.length_append, List.length_map, List.length_take, List.length_drop] <;> omega)) only [go_sem, seval]
 have hat : (97 :: 114 :: 99 :: 32 :: QK i).length <= 26 := by simp; omega
 generalize hga : nth n.arcs i = a at ht hsl ⊢;generalize 97 :: 114 :: 99 :: 32 :: QK i = at' at hat ⊢;refine Zr (Weak.ofNil 5 2 (by simp (disch := omega) only [go_sem, seval]) (by simp) (Weak.refl _ _ _)) ?_;refine Zo [1, 2, 6, 7] (fun m : List Flt => [(5, .sl 2 0 m.length m.length)]) (fun m => Zt n ++ [Yv a, .elems 2 (m.map eF)]) (fun m => FR (pF 26) (0 <= a.src /\ a.src < n.places.length /\ 0 <= a.dst /\ a.dst < n.places.length) 1 m) ?_ ?_
 ·simp (disch := omega) only [go_sem, seval]
  repeat' (first | (refine ZI (fun hq => ?_) (fun hq => ?_) <;> (try simp only [decide_eq_true_eq, decide_eq_false_iff_not, Classical.not_not] at hq) <;> simp (disch := omega) only [Sh.out hq, go_sem, seval]) | (refine ZJ (fun hq => ?_) (fun hq => ?_) <;> (try simp only [decide_eq_true_eq, decide_eq_false_iff_not, Classical.not_not] at hq) <;> simp (disch := omega) only [Sh.out hq, go_sem, seval]) | (refine ZV (fun hq => ?_) (fun hq => ?_) <;> (try simp only [decide_eq_true_eq, decide_eq_false_iff_not, Classical.not_not] at hq) <;> simp (disch := omega) only [Sh.out hq, go_sem, seval]))
  all_goals try exact ⟨[], FR.nil (by omega), Weak.mk (by simp (disch := omega) only [Zt, Yv, go_sem, seval])⟩
  all_goals exact ⟨[(11, at')], ⟨by simp, by simp; omega, by simpa [pF] using hat⟩, Weak.mk (by simp (disch := omega) only [Zt, Yv, go_sem, seval])⟩
 ·intro m hm;refine Za [6] _ _ _ _ ?_;simp (disch := omega) only [Zt, Yv, go_sem, seval];have hml := hm.len
  refine Zo [1, 2, 6, 7] (fun m : List Flt => [(5, .sl 2 0 m.length m.length)]) (fun m => Zt n ++ [Yv a, .elems 2 (m.map eF)])
   (fun m => FR (pF 26) ((0 <= a.src /\ a.src < n.places.length /\ 0 <= a.dst /\ a.dst < n.places.length) /\ (0 <= a.prof /\ a.prof <= 7 /\ 0 <= a.miles /\ a.miles <= 10000 /\ a.src ≠ a.dst)) 2 m) ?_ ?_
  ·simp (disch := omega) only [go_sem, seval]
   repeat' (first | (refine ZI (fun hq => ?_) (fun hq => ?_) <;> (try simp only [decide_eq_true_eq, decide_eq_false_iff_not, Classical.not_not] at hq) <;> simp (disch := omega) only [Sh.out hq, go_sem, seval]) | (refine ZJ (fun hq => ?_) (fun hq => ?_) <;> (try simp only [decide_eq_true_eq, decide_eq_false_iff_not, Classical.not_not] at hq) <;> simp (disch := omega) only [Sh.out hq, go_sem, seval]) | (refine ZV (fun hq => ?_) (fun hq => ?_) <;> (try simp only [decide_eq_true_eq, decide_eq_false_iff_not, Classical.not_not] at hq) <;> simp (disch := omega) only [Sh.out hq, go_sem, seval]))
   all_goals try exact ⟨m, hm.no (by omega), Weak.mk (by simp (disch := omega) only [Zt, Yv, go_sem, seval])⟩
   all_goals exact ⟨m ++ [(2, at')], hm.yes (by omega) (by simpa [pF] using hat), Weak.mk (by simp (disch := omega) only [Zt, Yv, go_sem, seval])⟩
  ·clear hm hml;intro m hm;refine Za [14] _ _ _ _ ?_;simp (disch := omega) only [Zt, Yv, go_sem, seval];have hml := hm.len;refine Xv [14] [1, 2, 5, 6, 7] (fun q : Nat × Bool => [(8, .p (.bool q.2)), (9, .p (.int .i64 q.1))]) (fun _ => Zt n ++ [Yv a, .elems 2 (m.map eF)]) (fun q => q.1 <= i /\ (q.2 = false ↔ ∀ j, j < q.1 -> ¬ Xb a (nth n.arcs j))) (fun q => i - q.1) (0, false) (by simp) (Weak.mk ?_) ?_
   ·simp (disch := omega) only [Zt, Yv, go_sem, seval]
   ·rintro ⟨k, b⟩ ⟨hk, hb⟩;simp only at hk hb;simp (disch := omega) only [Zt, Yv, go_sem, seval];refine cD ?_ ?_ <;> intro h <;> simp (disch := omega) only [Sh.out h, go_sem, seval]
    ·have hkn : k < n.arcs.length := by omega
     cases b with
     | true =>
      simp (disch := omega) only [go_sem, seval];exact ⟨(k + 1, true), ⟨by simp only; omega, by rw [Zu, <- hb]; simp⟩, by simp only; omega, Weak.mk (by simp (disch := omega) only [Zt, Yv, go_sem, seval])⟩
     | false =>
      simp (disch := omega) only [go_sem, seval]
      repeat' (first | (refine ZI (fun hq => ?_) (fun hq => ?_) <;> (try simp only [decide_eq_true_eq, decide_eq_false_iff_not, Classical.not_not] at hq) <;> simp (disch := omega) only [Sh.out hq, go_sem, seval]) | (refine ZJ (fun hq => ?_) (fun hq => ?_) <;> (try simp only [decide_eq_true_eq, decide_eq_false_iff_not, Classical.not_not] at hq) <;> simp (disch := omega) only [Sh.out hq, go_sem, seval]) | (refine ZV (fun hq => ?_) (fun hq => ?_) <;> (try simp only [decide_eq_true_eq, decide_eq_false_iff_not, Classical.not_not] at hq) <;> simp (disch := omega) only [Sh.out hq, go_sem, seval]))
      all_goals refine ⟨(k + 1, decide (Xb a (nth n.arcs k))), ⟨by simp only; omega, by rw [Zu, <- hb]; simp⟩, by simp only; omega, Weak.mk ?_⟩
      all_goals simp (disch := omega) only [Zt, Yv, go_sem, seval]
      all_goals simp [Xb, *]
    ·have hki : k = i := by omega
     subst hki;have htw : (b = false ↔ ∀ j, j < k -> ¬ Xb a (nth n.arcs j)) := hb;clear hb hk h
     refine Zo [6, 7] (fun m : List Flt => [(5, .sl 2 0 m.length m.length)]) (fun m => Zt n ++ [Yv a, .elems 2 (m.map eF)])
      (fun m => FR (pF 26) (((0 <= a.src /\ a.src < n.places.length /\ 0 <= a.dst /\ a.dst < n.places.length) /\ (0 <= a.prof /\ a.prof <= 7 /\ 0 <= a.miles /\ a.miles <= 10000 /\ a.src ≠ a.dst)) /\ ∀ j, j < k -> ¬ Xb a (nth n.arcs j)) 3 m) ?_ ?_
     ·simp (disch := omega) only [go_sem, seval]
      cases b with
      | true =>
       simp (disch := omega) only [go_sem, seval];exact ⟨m ++ [(6, at')], hm.yes (by rw [<- htw]; simp) (by simpa [pF] using hat), Weak.mk (by simp (disch := omega) only [Zt, Yv, go_sem, seval])⟩
      | false =>
       simp (disch := omega) only [go_sem, seval];exact ⟨m, hm.no (htw.1 rfl), Weak.mk (by simp (disch := omega) only [Zt, Yv, go_sem, seval])⟩
     ·clear hm hml;intro m hm;refine Za [21] _ _ _ _ ?_;simp (disch := omega) only [Zt, Yv, go_sem, seval];have hml := hm.len;refine ((Zix a.travel a.travel_c ht).frozenE).useV fun lt hlt => ?_;simp (disch := omega) only [go_sem, seval];have hltl := hlt.len
      refine Xv [21] [6, 7, 11] (fun q : Nat × List Flt => [(5, .sl 2 0 q.2.length q.2.length), (12, .p (.int .i64 q.1))]) (fun q => Zt n ++ [Yv a, .elems 2 (q.2.map eF)])
       (fun q => q.1 <= lt.length /\ FR (pF 26) ((((0 <= a.src /\ a.src < n.places.length /\ 0 <= a.dst /\ a.dst < n.places.length) /\ (0 <= a.prof /\ a.prof <= 7 /\ 0 <= a.miles /\ a.miles <= 10000 /\ a.src ≠ a.dst)) /\ ∀ j, j < k -> ¬ Xb a (nth n.arcs j)) /\ q.1 = 0) (3 + q.1) q.2) (fun q => lt.length - q.1) (0, m) ⟨by simp, hm.to (by simp) (by simp)⟩ (Weak.mk ?_) ?_
      ·simp (disch := omega) only [Zt, Yv, go_sem, seval]
      ·clear hm hml;rintro ⟨j, m⟩ ⟨hj, hm⟩;simp only at hj hm;have hml := hm.len;simp (disch := omega) only [Zt, Yv, go_sem, seval];refine cD ?_ ?_ <;> intro h <;> simp (disch := omega) only [Sh.out h, go_sem, seval]
       ·have hj2 : j < lt.length := by omega
        exact ⟨(j + 1, m ++ [((nth lt j).1, at')]), ⟨by simp only; omega, (hm.yes (c := False) (by simp) (by simpa [pF] using hat)).to (by simp only; omega) (by simp)⟩, by simp only; omega, Weak.mk (by simp (disch := omega) only [Zt, Yv, go_sem, seval])⟩
       ·have hjl : j = lt.length := by omega
        subst hjl;have hm2 := hm.to (d := 3 + lt.length) (D := (((0 <= a.src /\ a.src < n.places.length /\ 0 <= a.dst /\ a.dst < n.places.length) /\ (0 <= a.prof /\ a.prof <= 7 /\ 0 <= a.miles /\ a.miles <= 10000 /\ a.src ≠ a.dst)) /\ ∀ j, j < k -> ¬ Xb a (nth n.arcs j)) /\ U5 a.travel) (Nat.le_refl _) (by rw [<- hlt.emp, List.eq_nil_iff_length_eq_zero]);clear hm
        refine Zo [6, 7] (fun m : List Flt => [(5, .sl 2 0 m.length m.length)]) (fun m => Zt n ++ [Yv a, .elems 2 (m.map eF)])
         (fun m => FR (pF 26) (((((0 <= a.src /\ a.src < n.places.length /\ 0 <= a.dst /\ a.dst < n.places.length) /\ (0 <= a.prof /\ a.prof <= 7 /\ 0 <= a.miles /\ a.miles <= 10000 /\ a.src ≠ a.dst)) /\ ∀ j, j < k -> ¬ Xb a (nth n.arcs j)) /\ U5 a.travel) /\ a.slow.length <= 16) (4 + lt.length) m) ?_ ?_
        ·simp (disch := omega) only [go_sem, seval];refine cD ?_ ?_ <;> intro h2 <;> simp (disch := omega) only [Sh.out h2, go_sem, seval]
         ·exact ⟨m ++ [(4, at')], (hm2.yes (by omega) (by simpa [pF] using hat)).to (by omega) Iff.rfl, Weak.mk (by simp (disch := omega) only [Zt, Yv, go_sem, seval])⟩
         ·exact ⟨m, (hm2.no (by omega)).to (by omega) Iff.rfl, Weak.mk (by simp (disch := omega) only [Zt, Yv, go_sem, seval])⟩
        ·clear hm2 hml h hj;intro m hm;refine Za [] _ _ _ _ ?_;simp (disch := omega) only [Zt, Yv, go_sem, seval]
         refine Zi [6, 7] (fun q : Nat × List Flt => [(5, .sl 2 0 q.2.length q.2.length), (13, .p (.int .i64 q.1))]) (fun q => Zt n ++ [Yv a, .elems 2 (q.2.map eF)])
          (fun q => q.1 <= a.slow.length /\ FR (pF 26) ((((((0 <= a.src /\ a.src < n.places.length /\ 0 <= a.dst /\ a.dst < n.places.length) /\ (0 <= a.prof /\ a.prof <= 7 /\ 0 <= a.miles /\ a.miles <= 10000 /\ a.src ≠ a.dst)) /\ ∀ j, j < k -> ¬ Xb a (nth n.arcs j)) /\ U5 a.travel) /\ a.slow.length <= 16) /\ ∀ j, j < q.1 -> VI a.slow j) (4 + lt.length + q.1) q.2) (fun q => a.slow.length - q.1) (0, m) ⟨by simp, hm.to (by simp) (by simp)⟩ (Weak.mk ?_) ?_
         ·simp (disch := omega) only [Zt, Yv, go_sem, seval]
         ·clear hm;rintro ⟨j, m⟩ ⟨hj, hm⟩;simp only at hj hm;have hml := hm.len;simp (disch := omega) only [Zt, Yv, go_sem, seval];refine cD ?_ ?_ <;> intro h <;> simp (disch := omega) only [Sh.out h, go_sem, seval]
          ·have hj2 : j < a.slow.length := by omega
           refine Zf mixed (by kernel_rfl) (by kernel_rfl) ?_;simp (disch := omega) only [go_sem, seval];refine Zp (JW (nth a.slow j).t) ?_;simp (disch := omega) only [go_sem, seval];have hslo : VI a.slow j ↔ (Zef (nth a.slow j).t = true /\ Zef (nth a.slow j).a = true /\ (0 < j -> (nth a.slow (j - 1)).t < (nth a.slow j).t)) := Iff.rfl;have hyes : ¬ VI a.slow j -> _ := fun hs => (hm.yes (x := (2, at')) hs (by simpa [pF] using hat)).to (D := (((((0 <= a.src /\ a.src < n.places.length /\ 0 <= a.dst /\ a.dst < n.places.length) /\ (0 <= a.prof /\ a.prof <= 7 /\ 0 <= a.miles /\ a.miles <= 10000 /\ a.src ≠ a.dst)) /\ ∀ j, j < k -> ¬ Xb a (nth n.arcs j)) /\ U5 a.travel) /\ a.slow.length <= 16) /\ ∀ i, i < j + 1 -> VI a.slow i) (d := 4 + lt.length + (j + 1)) (by omega) (by simp only [Zu, and_assoc])
           have hno : VI a.slow j -> _ := fun hs => (hm.no hs).to (D := (((((0 <= a.src /\ a.src < n.places.length /\ 0 <= a.dst /\ a.dst < n.places.length) /\ (0 <= a.prof /\ a.prof <= 7 /\ 0 <= a.miles /\ a.miles <= 10000 /\ a.src ≠ a.dst)) /\ ∀ j, j < k -> ¬ Xb a (nth n.arcs j)) /\ U5 a.travel) /\ a.slow.length <= 16) /\ ∀ i, i < j + 1 -> VI a.slow i) (d := 4 + lt.length + (j + 1)) (by omega) (by simp only [Zu, and_assoc])
           cases ht1 : Zef (nth a.slow j).t with
           | false =>
            simp (disch := omega) only [go_sem, seval];exact ⟨(j + 1, m ++ [(2, at')]), ⟨by simp only; omega, hyes (by rw [hslo, ht1]; simp)⟩, by simp only; omega, Weak.mk (by simp (disch := omega) only [Zt, Yv, go_sem, seval])⟩
           | true =>
            simp (disch := omega) only [go_sem, seval];refine Zp (JW (nth a.slow j).a) ?_;simp (disch := omega) only [go_sem, seval]
            cases ht2 : Zef (nth a.slow j).a with
            | false =>
             simp (disch := omega) only [go_sem, seval];exact ⟨(j + 1, m ++ [(2, at')]), ⟨by simp only; omega, hyes (by rw [hslo, ht2]; simp)⟩, by simp only; omega, Weak.mk (by simp (disch := omega) only [Zt, Yv, go_sem, seval])⟩
            | true =>
             simp (disch := omega) only [go_sem, seval]
             repeat' (first | (refine ZI (fun hq => ?_) (fun hq => ?_) <;> (try simp only [decide_eq_true_eq, decide_eq_false_iff_not, Classical.not_not] at hq) <;> simp (disch := omega) only [Sh.out hq, go_sem, seval]) | (refine ZJ (fun hq => ?_) (fun hq => ?_) <;> (try simp only [decide_eq_true_eq, decide_eq_false_iff_not, Classical.not_not] at hq) <;> simp (disch := omega) only [Sh.out hq, go_sem, seval]) | (refine ZV (fun hq => ?_) (fun hq => ?_) <;> (try simp only [decide_eq_true_eq, decide_eq_false_iff_not, Classical.not_not] at hq) <;> simp (disch := omega) only [Sh.out hq, go_sem, seval]))
             ·exact ⟨(j + 1, m ++ [(2, at')]), ⟨by simp only; omega, hyes (by rw [hslo]; omega)⟩, by simp only; omega, Weak.mk (by simp (disch := omega) only [Zt, Yv, go_sem, seval])⟩
             ·exact ⟨(j + 1, m), ⟨by simp only; omega, hno (by rw [hslo]; exact ⟨ht1, ht2, by omega⟩)⟩, by simp only; omega, Weak.mk (by simp (disch := omega) only [Zt, Yv, go_sem, seval])⟩
             ·exact ⟨(j + 1, m), ⟨by simp only; omega, hno (by rw [hslo]; exact ⟨ht1, ht2, by omega⟩)⟩, by simp only; omega, Weak.mk (by simp (disch := omega) only [Zt, Yv, go_sem, seval])⟩
          ·have hjn : j = a.slow.length := by omega
           subst hjn;exact ⟨m, hm.to (by omega) (by rw [Zcm, hga]), 2, by simp (disch := omega) only [Zt, Yv, go_sem, seval]⟩
theorem YP {α : Type} [Inhabited α] {l : List α} {i : Nat} (h : i < l.length) : nth l i ∈ l := by rw [Zm h]; exact List.getElem_mem _
theorem ZgT (n : Net) (hw : n.wf 1048576) : ACalls Tryd.prog 13 [.p (Zec n)] [] fun x H' => ∃ m : List Flt, FR (pF 26) (netOk n) 4194306000000 m /\ x = .sl 0 0 m.length m.length /\ H' = [.elems 2 (m.map eF)] := by
 obtain ⟨w1, w2, w3, w4⟩ := hw;refine ZD [2] Tryd.func13 rfl ZnU ?_;simp (disch := omega) only [Tryd.f13, go_sem, seval];refine (Kx n w1 w2).useE fun m hm => ?_;simp (disch := omega) only [go_sem, seval];have hml := hm.len;refine Zo [1] (fun m : List Flt => [(3, .sl 1 0 m.length m.length)]) (fun m => Zt n ++ [.elems 2 (m.map eF)]) (fun m => FR (pF 26) (Y4 n /\ n.arcs.length <= 1024) (n.places.length + 2) m) ?_ ?_
 ·simp (disch := omega) only [go_sem, seval];refine cD ?_ ?_ <;> intro h <;> simp (disch := omega) only [Sh.out h, go_sem, seval]
  ·exact ⟨m ++ [(4, [97, 114, 99, 115])], hm.yes (by omega) (by simp [pF]), Weak.mk (by simp (disch := omega) only [Zt, go_sem, seval])⟩
  ·exact ⟨m, hm.no (by omega), Weak.mk (by simp (disch := omega) only [Zt, go_sem, seval])⟩
 ·clear hm hml;intro m hm;refine Za [] _ _ _ _ ?_;simp (disch := omega) only [Zt, go_sem, seval];refine Zi [1] (fun q : Nat × List Flt => [(3, .sl 1 0 q.2.length q.2.length), (4, .p (.int .i64 q.1))]) (fun q => Zt n ++ [.elems 2 (q.2.map eF)]) (fun q => q.1 <= n.arcs.length /\ FR (pF 26) ((Y4 n /\ n.arcs.length <= 1024) /\ ∀ j, j < q.1 -> Zcm n j) (n.places.length + 2 + q.1 * 4000000) q.2) (fun q => n.arcs.length - q.1) (0, m) ⟨by simp, hm.to (by simp) (by simp)⟩ (Weak.mk ?_) ?_
  ·simp (disch := omega) only [Zt, go_sem, seval]
  ·clear hm;rintro ⟨k, m⟩ ⟨hk, hm⟩;simp only at hk hm;have hml := hm.len;simp (disch := omega) only [Zt, go_sem, seval];refine cD ?_ ?_ <;> intro h <;> simp (disch := omega) only [Sh.out h, go_sem, seval]
   ·have hk2 : k < n.arcs.length := by omega
    have ha := w4 _ (YP hk2);refine (ZeZ n k hk2 w1 w3 ha.2.2.2.2.1 ha.2.2.2.2.2.2.1).useE fun f hf => ?_;simp (disch := omega) only [go_sem, seval];have hfl := hf.len
    have q1 : (m.length + f.length) * 24 <= 140737488355328 := by omega
    have q2 : m.length + f.length <= 140737488355328 := by omega
    simp (disch := omega) only [q1, q2, go_sem, seval];refine ⟨(k + 1, m ++ f), ⟨by simp only; omega, (hm.app hf).to (by simp only; omega) (by simp only [Zu, and_assoc])⟩, by simp only; omega, Weak.mk ?_⟩;simp (disch := omega) only [Zt, List.length_append, List.map_append, go_sem, seval]
   ·have hkn : k = n.arcs.length := by omega
    subst hkn;exact ⟨m, hm.to (by omega) (by rw [netOk]), 1, by simp (disch := omega) only [Zt, go_sem, seval]⟩
theorem XJ (n lo hi : Int) : PC 33 [.p (.int .i64 n), .p (.int .i64 lo), .p (.int .i64 hi)] (.bool (rng n lo hi)) := by
 refine Zb Tryd.func33 rfl ZmX ?_;simp (disch := omega) only [Tryd.f33, go_sem, seval];refine gT ?_ ?_ <;> intro h <;> simp (disch := omega) only [Sh.out h, go_sem, seval]
 all_goals (simp [rng]; first | done | omega | (rw [Bool.eq_iff_iff]; simp; omega))
def WL (l : List Int) (d : Int) : Bool := rng l.length 1 3 && decide ((l.length : Int) = d) && l.all fun n => rng n 0 1000
theorem Kq (l : List Int) (c : Bool) (d : Int) (hl : l.length <= 1048576) : PC 58 [.p (.list c (l.map eI)), .p (.int .i64 d)] (.bool (WL l d)) := by
 refine Zb Tryd.func58 rfl Zmc ?_;simp (disch := omega) only [Tryd.f58, go_sem, seval];refine (XJ l.length 1 3).use ?_;simp (disch := omega) only [go_sem, seval];refine gF ?_ ?_ <;> intro h <;> simp (disch := omega) only [Sh.out h, go_sem, seval]
 ·simp only [Bool.not_eq_true'] at h;simp [WL, h]
 ·simp only [Bool.not_eq_false'] at h;refine cD ?_ ?_ <;> intro h2 <;> simp (disch := omega) only [Sh.out h2, go_sem, seval]
  ·simp [WL, h, h2]
  ·simp only [Classical.not_not] at h2;subst h2;refine Zi [0] (fun k : Nat => [(5, .p (.int .i64 k))]) (fun _ => []) (fun k => k <= l.length /\ ∀ j, j < k -> rng (nth l j) 0 1000 = true) (fun k => l.length - k) 0 (by simp) (Weak.mk ?_) ?_
   ·simp (disch := omega) only [go_sem, seval]
   ·rintro k ⟨hk, hno⟩;simp (disch := omega) only [go_sem, seval];refine cD ?_ ?_ <;> intro h3 <;> simp (disch := omega) only [Sh.out h3, go_sem, seval]
    ·have hk2 : k < l.length := by omega
     refine (XJ (nth l k) 0 1000).use ?_;simp (disch := omega) only [go_sem, seval];refine cD ?_ ?_ <;> intro h4 <;> simp (disch := omega) only [Sh.out h4, go_sem, seval]
     ·simp only [Bool.not_eq_true'] at h4
      have : l.all (fun n => rng n 0 1000) = false := by
       rw [List.all_eq_false]; exact ⟨nth l k, YP hk2, by rw [h4]; simp⟩
      simp [WL, this]
     ·simp only [Bool.not_eq_false'] at h4;exact ⟨k + 1, ⟨by omega, Zu.2 ⟨hno, h4⟩⟩, by omega, wk⟩
    ·have : l.all (fun n => rng n 0 1000) = true := by
      rw [List.all_eq_true];intro x hx;obtain ⟨j, hj, rfl⟩ := List.mem_iff_getElem.1 hx;rw [<- Zm hj]; exact hno j (by omega)
     simp [WL, h, this]
def Qd (l : List Typ) (i : Nat) (s : List UInt8) : Bool := (List.range i).any fun j => decide ((nth l j).name = s)
theorem XL {l : List Typ} {i : Nat} {s : List UInt8} : Qd l i s = false ↔ ∀ j, j < i -> (nth l j).name ≠ s := by
 simp [Qd, List.any_eq_false]
theorem Za2 (l : List Typ) (c : Bool) (i : Nat) (s : List UInt8) (hi : i <= l.length) (hl : l.length <= 1048576) : PC 57 [.p (.list c (l.map Q2)), .p (.int .i64 (i : Nat)), .p (.str s)] (.bool (Qd l i s)) := by
 refine Zb Tryd.func57 rfl Zod ?_;simp (disch := omega) only [Tryd.f57, go_sem, seval];refine Zi [0, 1, 2] (fun k : Nat => [(7, .p (.int .i64 k))]) (fun _ => []) (fun k => k <= i /\ ∀ j, j < k -> (nth l j).name ≠ s) (fun k => i - k) 0 (by simp) (Weak.mk ?_) ?_
 ·simp (disch := omega) only [go_sem, seval]
 ·rintro k ⟨hk, hno⟩;simp (disch := omega) only [go_sem, seval];refine cD ?_ ?_ <;> intro h3 <;> simp (disch := omega) only [Sh.out h3, go_sem, seval]
  ·have hk2 : k < l.length := by omega
   refine cD ?_ ?_ <;> intro h4 <;> simp (disch := omega) only [Sh.out h4, go_sem, seval]
   ·have : Qd l i s = true := by
     cases hq : Qd l i s with
     | true => rfl
     | false => exact absurd h4 (XL.1 hq k (by omega))
    rw [this]
   ·exact ⟨k + 1, ⟨by omega, Zu.2 ⟨hno, h4⟩⟩, by omega, wk⟩
  ·have : k = i := by omega
   subst this;rw [XL.2 hno]
def dimsOf (l : List Typ) : Int := if l.length = 0 then 0 else ((nth l 0).cap.length : Int)
theorem JU (l : List Typ) (c : Bool) (hl : l.length <= 1048576) : PC 16 [.p (.list c (l.map Q2))] (.int .i64 (dimsOf l)) := by
 refine Zb Tryd.func16 rfl ZnX ?_;simp (disch := omega) only [Tryd.f16, go_sem, seval];refine cD ?_ ?_ <;> intro h <;> simp (disch := omega) only [Sh.out h, go_sem, seval]
 ·have : l.length = 0 := by omega
  simp [dimsOf, this]
 ·have h0 : 0 < l.length := by omega
  have h1 : l.length ≠ 0 := by omega
  simp (disch := first | omega | (simp only [List.length_cons, List.length_nil, List.length_append, List.length_map, List.length_take, List.length_drop] <;> omega)) only [dimsOf, h1, go_sem, seval]
def XN (t : Typ) : AM.Obj := .cells [.p (.str t.name), .p (.int .i64 t.count), .p (.int .i64 t.src), .p (.int .i64 t.dst), .p (.list t.cap_c (t.cap.map eI)), .p (.int .i64 t.skills), .p (.int .i64 t.prof), .p (.int .i64 t.opn), .p (.int .i64 t.cls), .p (.int .i64 t.drive), .p (.int .i64 t.rest), .p (.int .i64 t.fixed), .p (.int .i64 t.perMile), .p (.int .i64 t.perTick)]
def KG (n : Net) (l : List Typ) (i : Nat) : Prop := ((((((((nameOk (nth l i).name = true) /\ (∀ j, j < i -> (nth l j).name ≠ (nth l i).name)) /\ rng (nth l i).count 0 10 = true) /\ (rng (nth l i).src 0 (n.places.length - 1) = true /\ rng (nth l i).dst 0 (n.places.length - 1) = true)) /\ WL (nth l i).cap (dimsOf l) = true) /\ rng (nth l i).skills 0 1073741823 = true) /\ (rng (nth l i).opn 0 (nth l i).cls = true /\ (nth l i).cls <= 4096)) /\ (rng (nth l i).drive 1 4096 = true /\ rng (nth l i).rest 0 4096 = true)) /\ (rng (nth l i).prof 0 7 = true /\ rng (nth l i).fixed 0 100000 = true /\ rng (nth l i).perMile 0 100 = true /\ rng (nth l i).perTick 0 100 = true)
theorem ZbN (n : Net) (l : List Typ) (c : Bool) (i : Nat) (hi : i < l.length) (hl : l.length <= 1048576) (hw : n.wf 1048576) (ht : (nth l i).wf 1048576) :
  ACalls Tryd.prog 34 [.p (Zec n), .p (.list c (l.map Q2)), .p (.int .i64 (i : Nat))] [] fun x H' => ∃ m : List Int, FR (fun _ => True) (KG n l i) 9 m /\ x = .sl 0 0 m.length m.length /\ H' = [.elems 1 (m.map eI)] := by
 obtain ⟨w1, w2, w3, w4⟩ := hw;refine ZD [3] Tryd.func34 rfl Zoi ?_;simp (disch := omega) only [Tryd.f34, go_sem, seval];have hty : KG n l i ↔ ((((((((nameOk (nth l i).name = true) /\ (∀ j, j < i -> (nth l j).name ≠ (nth l i).name)) /\ rng (nth l i).count 0 10 = true) /\ (rng (nth l i).src 0 (n.places.length - 1) = true /\ rng (nth l i).dst 0 (n.places.length - 1) = true)) /\ WL (nth l i).cap (dimsOf l) = true) /\ rng (nth l i).skills 0 1073741823 = true) /\ (rng (nth l i).opn 0 (nth l i).cls = true /\ (nth l i).cls <= 4096)) /\ (rng (nth l i).drive 1 4096 = true /\ rng (nth l i).rest 0 4096 = true)) /\ (rng (nth l i).prof 0 7 = true /\ rng (nth l i).fixed 0 100000 = true /\ rng (nth l i).perMile 0 100 = true /\ rng (nth l i).perTick 0 100 = true) := Iff.rfl
 generalize hga : nth l i = t at ht hty ⊢;have hname := ht.1;have hcap := ht.2.2.2.2.1;refine Zr (Weak.ofNil 8 1 (by simp (disch := omega) only [go_sem, seval]) (by simp) (Weak.refl _ _ _)) ?_;refine Zo [1, 2, 3, 7] (fun m : List Int => [(8, .sl 2 0 m.length m.length)]) (fun m => Zt n ++ [XN t, .elems 1 (m.map eI)]) (fun m => FR (fun _ => True) (nameOk t.name = true) 1 m) ?_ ?_
 ·simp (disch := omega) only [go_sem, seval];refine (ZaB t.name hname).use ?_;simp (disch := omega) only [go_sem, seval];refine cD ?_ ?_ <;> intro h0 <;> simp (disch := omega) only [Sh.out h0, go_sem, seval]
  ·simp only [Bool.not_eq_true'] at h0;exact ⟨[5], ⟨by simp, by simp [h0], by simp⟩, Weak.mk (by simp (disch := omega) only [Zt, XN, go_sem, seval])⟩
  ·simp only [Bool.not_eq_false'] at h0;exact ⟨[], FR.nil (by simp [h0]), Weak.mk (by simp (disch := omega) only [Zt, XN, go_sem, seval])⟩
 ·skip
  intro m hm;refine Za [5] _ _ _ _ ?_;simp (disch := omega) only [Zt, XN, go_sem, seval];have hml := hm.len;refine Zo [1, 3, 7] (fun m : List Int => [(8, .sl 2 0 m.length m.length)]) (fun m => Zt n ++ [XN t, .elems 1 (m.map eI)]) (fun m => FR (fun _ => True) ((nameOk t.name = true) /\ (∀ j, j < i -> (nth l j).name ≠ t.name)) 2 m) ?_ ?_
  ·simp (disch := omega) only [go_sem, seval];refine (Za2 l c i t.name (by omega) hl).use ?_;simp (disch := omega) only [go_sem, seval];refine cD ?_ ?_ <;> intro h <;> simp (disch := omega) only [Sh.out h, go_sem, seval]
   ·exact ⟨m ++ [6], hm.yes (by rw [<- XL, h]; simp) trivial, Weak.mk (by simp (disch := omega) only [Zt, XN, go_sem, seval])⟩
   ·exact ⟨m, hm.no (by exact XL.1 h), Weak.mk (by simp (disch := omega) only [Zt, XN, go_sem, seval])⟩
  ·clear hm hml;intro m hm;refine Za [7] _ _ _ _ ?_;simp (disch := omega) only [Zt, XN, go_sem, seval];have hml := hm.len;refine Zo [1, 3, 7] (fun m : List Int => [(8, .sl 2 0 m.length m.length)]) (fun m => Zt n ++ [XN t, .elems 1 (m.map eI)]) (fun m => FR (fun _ => True) (((nameOk t.name = true) /\ (∀ j, j < i -> (nth l j).name ≠ t.name)) /\ rng t.count 0 10 = true) 3 m) ?_ ?_
   ·simp (disch := omega) only [go_sem, seval];refine (XJ t.count 0 10).use ?_;simp (disch := omega) only [go_sem, seval];refine cD ?_ ?_ <;> intro h0 <;> simp (disch := omega) only [Sh.out h0, go_sem, seval]
    ·simp only [Bool.not_eq_true'] at h0;exact ⟨m ++ [22], hm.yes (by simp [h0]) trivial, Weak.mk (by simp (disch := omega) only [Zt, XN, go_sem, seval])⟩
    ·simp only [Bool.not_eq_false'] at h0;exact ⟨m, hm.no (by simp [h0]), Weak.mk (by simp (disch := omega) only [Zt, XN, go_sem, seval])⟩
   ·clear hm hml;intro m hm;refine Za [9] _ _ _ _ ?_;simp (disch := omega) only [Zt, XN, go_sem, seval];have hml := hm.len;refine Zo [1, 7] (fun m : List Int => [(8, .sl 2 0 m.length m.length)]) (fun m => Zt n ++ [XN t, .elems 1 (m.map eI)]) (fun m => FR (fun _ => True) ((((nameOk t.name = true) /\ (∀ j, j < i -> (nth l j).name ≠ t.name)) /\ rng t.count 0 10 = true) /\ (rng t.src 0 (n.places.length - 1) = true /\ rng t.dst 0 (n.places.length - 1) = true)) 4 m) ?_ ?_
    ·simp (disch := omega) only [go_sem, seval];refine (XJ t.src 0 (n.places.length - 1)).use ?_;simp (disch := omega) only [go_sem, seval];refine gF ?_ ?_ <;> intro h0 <;> simp (disch := omega) only [Sh.out h0, go_sem, seval]
     ·simp only [Bool.not_eq_true'] at h0;exact ⟨m ++ [11], hm.yes (by simp [h0]) trivial, Weak.mk (by simp (disch := omega) only [Zt, XN, go_sem, seval])⟩
     ·simp only [Bool.not_eq_false'] at h0;refine (XJ t.dst 0 (n.places.length - 1)).use ?_;simp (disch := omega) only [go_sem, seval];refine cD ?_ ?_ <;> intro h1 <;> simp (disch := omega) only [Sh.out h1, go_sem, seval]
      ·simp only [Bool.not_eq_true'] at h1;exact ⟨m ++ [11], hm.yes (by simp [h1]) trivial, Weak.mk (by simp (disch := omega) only [Zt, XN, go_sem, seval])⟩
      ·simp only [Bool.not_eq_false'] at h1;exact ⟨m, hm.no (by simp [h0, h1]), Weak.mk (by simp (disch := omega) only [Zt, XN, go_sem, seval])⟩
    ·clear hm hml;intro m hm;refine Za [11] _ _ _ _ ?_;simp (disch := omega) only [Zt, XN, go_sem, seval];have hml := hm.len;refine Zo [7] (fun m : List Int => [(8, .sl 2 0 m.length m.length)]) (fun m => Zt n ++ [XN t, .elems 1 (m.map eI)]) (fun m => FR (fun _ => True) (((((nameOk t.name = true) /\ (∀ j, j < i -> (nth l j).name ≠ t.name)) /\ rng t.count 0 10 = true) /\ (rng t.src 0 (n.places.length - 1) = true /\ rng t.dst 0 (n.places.length - 1) = true)) /\ WL t.cap (dimsOf l) = true) 5 m) ?_ ?_
     ·simp (disch := omega) only [go_sem, seval];refine Zf mixed (by kernel_rfl) (by kernel_rfl) ?_;simp (disch := omega) only [go_sem, seval];refine Zp (JU l c hl) ?_;simp (disch := omega) only [go_sem, seval];refine Zp (Kq t.cap t.cap_c (dimsOf l) hcap) ?_;simp (disch := omega) only [go_sem, seval];refine cD ?_ ?_ <;> intro h <;> simp (disch := omega) only [Sh.out h, go_sem, seval]
      ·simp only [Bool.not_eq_true'] at h;exact ⟨m ++ [17], hm.yes (by simp [h]) trivial, Weak.mk (by simp (disch := omega) only [Zt, XN, go_sem, seval])⟩
      ·simp only [Bool.not_eq_false'] at h;exact ⟨m, hm.no (by simp [h]), Weak.mk (by simp (disch := omega) only [Zt, XN, go_sem, seval])⟩
     ·clear hm hml;intro m hm;refine Za [13] _ _ _ _ ?_;simp (disch := omega) only [Zt, XN, go_sem, seval];have hml := hm.len;refine Zo [7] (fun m : List Int => [(8, .sl 2 0 m.length m.length)]) (fun m => Zt n ++ [XN t, .elems 1 (m.map eI)]) (fun m => FR (fun _ => True) ((((((nameOk t.name = true) /\ (∀ j, j < i -> (nth l j).name ≠ t.name)) /\ rng t.count 0 10 = true) /\ (rng t.src 0 (n.places.length - 1) = true /\ rng t.dst 0 (n.places.length - 1) = true)) /\ WL t.cap (dimsOf l) = true) /\ rng t.skills 0 1073741823 = true) 6 m) ?_ ?_
      ·simp (disch := omega) only [go_sem, seval];refine (XJ t.skills 0 1073741823).use ?_;simp (disch := omega) only [go_sem, seval];refine cD ?_ ?_ <;> intro h0 <;> simp (disch := omega) only [Sh.out h0, go_sem, seval]
       ·simp only [Bool.not_eq_true'] at h0;exact ⟨m ++ [18], hm.yes (by simp [h0]) trivial, Weak.mk (by simp (disch := omega) only [Zt, XN, go_sem, seval])⟩
       ·simp only [Bool.not_eq_false'] at h0;exact ⟨m, hm.no (by simp [h0]), Weak.mk (by simp (disch := omega) only [Zt, XN, go_sem, seval])⟩
      ·clear hm hml;intro m hm;refine Za [15] _ _ _ _ ?_;simp (disch := omega) only [Zt, XN, go_sem, seval];have hml := hm.len;refine Zo [7] (fun m : List Int => [(8, .sl 2 0 m.length m.length)]) (fun m => Zt n ++ [XN t, .elems 1 (m.map eI)]) (fun m => FR (fun _ => True) (((((((nameOk t.name = true) /\ (∀ j, j < i -> (nth l j).name ≠ t.name)) /\ rng t.count 0 10 = true) /\ (rng t.src 0 (n.places.length - 1) = true /\ rng t.dst 0 (n.places.length - 1) = true)) /\ WL t.cap (dimsOf l) = true) /\ rng t.skills 0 1073741823 = true) /\ (rng t.opn 0 t.cls = true /\ t.cls <= 4096)) 7 m) ?_ ?_
       ·simp (disch := omega) only [go_sem, seval];refine (XJ t.opn 0 t.cls).use ?_;simp (disch := omega) only [go_sem, seval];refine gF ?_ ?_ <;> intro h0 <;> simp (disch := omega) only [Sh.out h0, go_sem, seval]
        ·simp only [Bool.not_eq_true'] at h0;exact ⟨m ++ [15], hm.yes (by simp [h0]) trivial, Weak.mk (by simp (disch := omega) only [Zt, XN, go_sem, seval])⟩
        ·simp only [Bool.not_eq_false'] at h0;refine cD ?_ ?_ <;> intro h1 <;> simp (disch := omega) only [Sh.out h1, go_sem, seval]
         ·exact ⟨m ++ [15], hm.yes (by omega) trivial, Weak.mk (by simp (disch := omega) only [Zt, XN, go_sem, seval])⟩
         ·exact ⟨m, hm.no (by exact ⟨h0, by omega⟩), Weak.mk (by simp (disch := omega) only [Zt, XN, go_sem, seval])⟩
       ·clear hm hml;intro m hm;refine Za [17] _ _ _ _ ?_;simp (disch := omega) only [Zt, XN, go_sem, seval];have hml := hm.len;refine Zo [7] (fun m : List Int => [(8, .sl 2 0 m.length m.length)]) (fun m => Zt n ++ [XN t, .elems 1 (m.map eI)]) (fun m => FR (fun _ => True) ((((((((nameOk t.name = true) /\ (∀ j, j < i -> (nth l j).name ≠ t.name)) /\ rng t.count 0 10 = true) /\ (rng t.src 0 (n.places.length - 1) = true /\ rng t.dst 0 (n.places.length - 1) = true)) /\ WL t.cap (dimsOf l) = true) /\ rng t.skills 0 1073741823 = true) /\ (rng t.opn 0 t.cls = true /\ t.cls <= 4096)) /\ (rng t.drive 1 4096 = true /\ rng t.rest 0 4096 = true)) 8 m) ?_ ?_
        ·simp (disch := omega) only [go_sem, seval];refine (XJ t.drive 1 4096).use ?_;simp (disch := omega) only [go_sem, seval];refine gF ?_ ?_ <;> intro h0 <;> simp (disch := omega) only [Sh.out h0, go_sem, seval]
         ·simp only [Bool.not_eq_true'] at h0;exact ⟨m ++ [16], hm.yes (by simp [h0]) trivial, Weak.mk (by simp (disch := omega) only [Zt, XN, go_sem, seval])⟩
         ·simp only [Bool.not_eq_false'] at h0;refine (XJ t.rest 0 4096).use ?_;simp (disch := omega) only [go_sem, seval];refine cD ?_ ?_ <;> intro h1 <;> simp (disch := omega) only [Sh.out h1, go_sem, seval]
          ·simp only [Bool.not_eq_true'] at h1;exact ⟨m ++ [16], hm.yes (by simp [h1]) trivial, Weak.mk (by simp (disch := omega) only [Zt, XN, go_sem, seval])⟩
          ·simp only [Bool.not_eq_false'] at h1;exact ⟨m, hm.no (by simp [h0, h1]), Weak.mk (by simp (disch := omega) only [Zt, XN, go_sem, seval])⟩
        ·clear hm hml;intro m hm;refine Za [19] _ _ _ _ ?_;simp (disch := omega) only [Zt, XN, go_sem, seval];have hml := hm.len;refine Zo [] (fun m : List Int => [(8, .sl 2 0 m.length m.length)]) (fun m => Zt n ++ [XN t, .elems 1 (m.map eI)]) (fun m => FR (fun _ => True) (((((((((nameOk t.name = true) /\ (∀ j, j < i -> (nth l j).name ≠ t.name)) /\ rng t.count 0 10 = true) /\ (rng t.src 0 (n.places.length - 1) = true /\ rng t.dst 0 (n.places.length - 1) = true)) /\ WL t.cap (dimsOf l) = true) /\ rng t.skills 0 1073741823 = true) /\ (rng t.opn 0 t.cls = true /\ t.cls <= 4096)) /\ (rng t.drive 1 4096 = true /\ rng t.rest 0 4096 = true)) /\ (rng t.prof 0 7 = true /\ rng t.fixed 0 100000 = true /\ rng t.perMile 0 100 = true /\ rng t.perTick 0 100 = true)) 9 m) ?_ ?_
         ·simp (disch := omega) only [go_sem, seval];refine (XJ t.prof 0 7).use ?_;simp (disch := omega) only [go_sem, seval];refine gF ?_ ?_ <;> intro h0 <;> simp (disch := omega) only [Sh.out h0, go_sem, seval]
          ·simp only [Bool.not_eq_true'] at h0;exact ⟨m ++ [2], hm.yes (by simp [h0]) trivial, Weak.mk (by simp (disch := omega) only [Zt, XN, go_sem, seval])⟩
          ·simp only [Bool.not_eq_false'] at h0;refine (XJ t.fixed 0 100000).use ?_;simp (disch := omega) only [go_sem, seval];refine gF ?_ ?_ <;> intro h1 <;> simp (disch := omega) only [Sh.out h1, go_sem, seval]
           ·simp only [Bool.not_eq_true'] at h1;exact ⟨m ++ [2], hm.yes (by simp [h1]) trivial, Weak.mk (by simp (disch := omega) only [Zt, XN, go_sem, seval])⟩
           ·simp only [Bool.not_eq_false'] at h1;refine (XJ t.perMile 0 100).use ?_;simp (disch := omega) only [go_sem, seval];refine gF ?_ ?_ <;> intro h2 <;> simp (disch := omega) only [Sh.out h2, go_sem, seval]
            ·simp only [Bool.not_eq_true'] at h2;exact ⟨m ++ [2], hm.yes (by simp [h2]) trivial, Weak.mk (by simp (disch := omega) only [Zt, XN, go_sem, seval])⟩
            ·simp only [Bool.not_eq_false'] at h2;refine (XJ t.perTick 0 100).use ?_;simp (disch := omega) only [go_sem, seval];refine cD ?_ ?_ <;> intro h3 <;> simp (disch := omega) only [Sh.out h3, go_sem, seval]
             ·simp only [Bool.not_eq_true'] at h3;exact ⟨m ++ [2], hm.yes (by simp [h3]) trivial, Weak.mk (by simp (disch := omega) only [Zt, XN, go_sem, seval])⟩
             ·simp only [Bool.not_eq_false'] at h3;exact ⟨m, hm.no (by simp [h0, h1, h2, h3]), Weak.mk (by simp (disch := omega) only [Zt, XN, go_sem, seval])⟩
         ·clear hm hml;intro m hm;refine Za [] _ _ _ _ ?_;simp (disch := omega) only [Zt, XN, go_sem, seval];have hml := hm.len;exact ⟨m, hm.to (by omega) (by rw [hty]), 2, by simp (disch := omega) only [Zt, XN, go_sem, seval]⟩
def typesOk (n : Net) (l : List Typ) : Prop := rng l.length 1 6 = true /\ ∀ i, i < l.length -> KG n l i
theorem Zjg (n : Net) (l : List Typ) (c : Bool) (hw : n.wf 1048576) (hl : l.length <= 1048576) (hlw : ∀ t ∈ l, t.wf 1048576) :
  ACalls Tryd.prog 14 [.p (Zec n), .p (.list c (l.map Q2))] [] fun x H' => ∃ m : List Flt, FR (pF 20) (typesOk n l) (1 + 9 * l.length) m /\ x = .sl 0 0 m.length m.length /\ H' = [.elems 2 (m.map eF)] := by
 refine ZD [2] Tryd.func14 rfl Zmm ?_;simp (disch := omega) only [Tryd.f14, go_sem, seval];refine Zr (Weak.ofNil 5 2 (by simp (disch := omega) only [go_sem, seval]) (by simp) (Weak.refl _ _ _)) ?_;refine Zo [1, 2] (fun m : List Flt => [(5, .sl 1 0 m.length m.length)]) (fun m => Zt n ++ [.elems 2 (m.map eF)]) (fun m => FR (pF 20) (rng l.length 1 6 = true) 1 m) ?_ ?_
 ·simp (disch := omega) only [go_sem, seval];refine (XJ l.length 1 6).use ?_;simp (disch := omega) only [go_sem, seval];refine cD ?_ ?_ <;> intro h <;> simp (disch := omega) only [Sh.out h, go_sem, seval]
  ·simp only [Bool.not_eq_true'] at h;exact ⟨[(4, [])], ⟨by simp, by simp [h], by simp [pF]⟩, Weak.mk (by simp (disch := omega) only [Zt, go_sem, seval])⟩
  ·simp only [Bool.not_eq_false'] at h;exact ⟨[], FR.nil h, Weak.mk (by simp (disch := omega) only [Zt, go_sem, seval])⟩
 ·intro m hm;refine Za [] _ _ _ _ ?_;simp (disch := omega) only [Zt, go_sem, seval];refine Zi [1, 2] (fun q : Nat × List Flt => [(5, .sl 1 0 q.2.length q.2.length), (6, .p (.int .i64 q.1))]) (fun q => Zt n ++ [.elems 2 (q.2.map eF)]) (fun q => q.1 <= l.length /\ FR (pF 20) (rng l.length 1 6 = true /\ ∀ j, j < q.1 -> KG n l j) (1 + 9 * q.1) q.2) (fun q => l.length - q.1) (0, m) ⟨by simp, hm.to (by simp) (by simp)⟩ (Weak.mk ?_) ?_
  ·simp (disch := omega) only [Zt, go_sem, seval]
  ·clear hm;rintro ⟨k, m⟩ ⟨hk, hm⟩;simp only at hk hm;have hml := hm.len;simp (disch := omega) only [Zt, go_sem, seval];refine cD ?_ ?_ <;> intro h <;> simp (disch := omega) only [Sh.out h, go_sem, seval]
   ·have hk2 : k < l.length := by omega
    have hI : I64 (k : Int) := by omega
    have hdl := Yt k hI;refine ((ZbN n l c k hk2 hl hw (hlw _ (YP hk2))).frozenE).useV fun e he => ?_;simp (disch := omega) only [go_sem, seval];have hel := he.len;refine Zi [1, 2, 6, 7] (fun q : Nat × List Flt => [(5, .sl 1 0 q.2.length q.2.length), (8, .p (.int .i64 q.1))]) (fun q => Zt n ++ [.elems 2 (q.2.map eF)]) (fun q => q.1 <= e.length /\ FR (pF 20) ((rng l.length 1 6 = true /\ ∀ j, j < k -> KG n l j) /\ q.1 = 0) (1 + 9 * k + q.1) q.2) (fun q => e.length - q.1) (0, m) ⟨by simp, hm.to (by simp) (by simp)⟩ (Weak.mk ?_) ?_
    ·simp (disch := omega) only [Zt, go_sem, seval]
    ·clear hm hml;rintro ⟨j, m⟩ ⟨hj, hm⟩;simp only at hj hm;have hml := hm.len;simp (disch := omega) only [Zt, go_sem, seval];refine cD ?_ ?_ <;> intro h2 <;> simp (disch := omega) only [Sh.out h2, go_sem, seval]
     ·have hj2 : j < e.length := by omega
      refine ZU 9 mixed (by kernel_rfl) (by kernel_rfl) ?_;simp (disch := omega) only [go_sem, seval];refine Zp (Wh k hI) ?_;simp (disch := omega) only [go_sem, seval];exact ⟨(j + 1, m ++ [(nth e j, QK k)]), ⟨by simp only; omega, (hm.yes (c := False) (by simp) (by simpa [pF] using hdl)).to (by simp only; omega) (by simp)⟩, by simp only; omega, Weak.mk (by simp (disch := omega) only [Zt, go_sem, seval])⟩
     ·have hjl : j = e.length := by omega
      subst hjl;exact ⟨(k + 1, m), ⟨by simp only; omega, hm.to (by simp only; omega) (by simp only [Zu, and_assoc]; rw [<- he.emp, List.eq_nil_iff_length_eq_zero])⟩, by simp only; omega, Weak.mk (by simp (disch := omega) only [Zt, go_sem, seval])⟩
   ·have hkn : k = l.length := by omega
    subst hkn;exact ⟨m, hm.to (by omega) (by rw [typesOk]), 1, by simp (disch := omega) only [Zt, go_sem, seval]⟩
theorem UY (n lo hi : Int) : PC 60 [.p (.int .i64 n), .p (.int .i64 lo), .p (.int .i64 hi)] (.bool (rng n lo hi)) := by
 refine Zb Tryd.func60 rfl ZnI ?_;simp (disch := omega) only [Tryd.f60, go_sem, seval];refine gT ?_ ?_ <;> intro h <;> simp (disch := omega) only [Sh.out h, go_sem, seval]
 all_goals (simp [rng]; first | done | omega | (rw [Bool.eq_iff_iff]; simp; omega))
def loadOk (l : List Int) (d : Int) : Bool := decide ((l.length : Int) = d) && l.all fun n => rng n 0 1000
theorem ZbM (l : List Int) (c : Bool) (d : Int) (hl : l.length <= 1048576) : PC 59 [.p (.list c (l.map eI)), .p (.int .i64 d)] (.bool (loadOk l d)) := by
 refine Zb Tryd.func59 rfl ZnL ?_;simp (disch := omega) only [Tryd.f59, go_sem, seval];refine cD ?_ ?_ <;> intro h2 <;> simp (disch := omega) only [Sh.out h2, go_sem, seval]
 ·simp [loadOk, h2]
 ·simp only [Classical.not_not] at h2;subst h2;refine Zi [0] (fun k : Nat => [(5, .p (.int .i64 k))]) (fun _ => []) (fun k => k <= l.length /\ ∀ j, j < k -> rng (nth l j) 0 1000 = true) (fun k => l.length - k) 0 (by simp) (Weak.mk ?_) ?_
  ·simp (disch := omega) only [go_sem, seval]
  ·rintro k ⟨hk, hno⟩;simp (disch := omega) only [go_sem, seval];refine cD ?_ ?_ <;> intro h3 <;> simp (disch := omega) only [Sh.out h3, go_sem, seval]
   ·have hk2 : k < l.length := by omega
    have hbad : rng (nth l k) 0 1000 = false -> loadOk l l.length = false := fun h4 => by
     have : l.all (fun n => rng n 0 1000) = false := by
      rw [List.all_eq_false]; exact ⟨nth l k, YP hk2, by rw [h4]; simp⟩
     simp [loadOk, this]
    repeat' (first | (refine ZI (fun hq => ?_) (fun hq => ?_) <;> (try simp only [decide_eq_true_eq, decide_eq_false_iff_not, Classical.not_not] at hq) <;> simp (disch := omega) only [Sh.out hq, go_sem, seval]) | (refine ZJ (fun hq => ?_) (fun hq => ?_) <;> (try simp only [decide_eq_true_eq, decide_eq_false_iff_not, Classical.not_not] at hq) <;> simp (disch := omega) only [Sh.out hq, go_sem, seval]) | (refine ZV (fun hq => ?_) (fun hq => ?_) <;> (try simp only [decide_eq_true_eq, decide_eq_false_iff_not, Classical.not_not] at hq) <;> simp (disch := omega) only [Sh.out hq, go_sem, seval]))
    all_goals first
     | (rw [hbad (by simp [rng]; omega)])
     | exact ⟨k + 1, ⟨by omega, Zu.2 ⟨hno, by simp [rng]; omega⟩⟩, by omega, wk⟩
   ·have : l.all (fun n => rng n 0 1000) = true := by
     rw [List.all_eq_true];intro x hx;obtain ⟨j, hj, rfl⟩ := List.mem_iff_getElem.1 hx;rw [<- Zm hj]; exact hno j (by omega)
    simp [loadOk, this]
def stpOk (s : Stp) : Bool := decide ((s.place = -1 /\ s.opn = 0 /\ s.cls = 0 /\ s.serv = 0) \/ (0 <= s.place /\ 0 <= s.opn /\ s.opn <= s.cls /\ s.cls <= 4096 /\ 0 <= s.serv /\ s.serv <= 4096))
def Zf4 (s : Stp) : Int := if stpOk s = true then 0 else 2
theorem ZdS (s : Stp) : PC 61 [.p (Zoy s)] (.int .i64 (Zf4 s)) := by
 refine Zb Tryd.func61 rfl Zm6 ?_;simp (disch := omega) only [Tryd.f61, go_sem, seval]
 repeat' (first | (refine ZI (fun hq => ?_) (fun hq => ?_) <;> (try simp only [decide_eq_true_eq, decide_eq_false_iff_not, Classical.not_not] at hq) <;> simp (disch := omega) only [Sh.out hq, go_sem, seval]) | (refine ZJ (fun hq => ?_) (fun hq => ?_) <;> (try simp only [decide_eq_true_eq, decide_eq_false_iff_not, Classical.not_not] at hq) <;> simp (disch := omega) only [Sh.out hq, go_sem, seval]) | (refine ZV (fun hq => ?_) (fun hq => ?_) <;> (try simp only [decide_eq_true_eq, decide_eq_false_iff_not, Classical.not_not] at hq) <;> simp (disch := omega) only [Sh.out hq, go_sem, seval]))
 all_goals (simp only [Zf4, stpOk, decide_eq_true_eq])
 all_goals first
  | (exfalso; omega)
  | (rw [if_pos (by omega)])
  | (rw [if_neg (by omega)])
def Xa (l : List Ord) (i : Nat) : Bool := (List.range i).all fun j => decide ((nth l j).name ≠ (nth l i).name)
theorem YN {l : List Ord} {i : Nat} : Xa l i = true ↔ ∀ j, j < i -> (nth l j).name ≠ (nth l i).name := by simp [Xa]
def sel (b : Bool) (e : Int) : List Int := if b = true then [] else [e]
theorem X7 (b : Bool) (e : Int) : (sel b e).length <= 1 := by unfold sel; split <;> simp
theorem Yl {b : Bool} {e : Int} {m p : List Int} (h : m = p) (hb : b = true) : m = p ++ sel b e := by simp [sel, hb, h]
theorem Ye {b : Bool} {e : Int} {m p : List Int} (h : m = p) (hb : b = false) : m ++ [e] = p ++ sel b e := by simp [sel, hb, h]
def Xl (t : Ord) : AM.Obj := .cells [.p (.str t.name), .p (.list t.load_c (t.load.map eI)), .p (.int .i64 t.pick.place), .p (.int .i64 t.pick.opn), .p (.int .i64 t.pick.cls), .p (.int .i64 t.pick.serv), .p (.int .i64 t.drp.place), .p (.int .i64 t.drp.opn), .p (.int .i64 t.drp.cls), .p (.int .i64 t.drp.serv), .p (.int .i64 t.skills), .p (.int .i64 t.penalty), .p (.int .i64 t.split), .p (.int .i64 t.last), .p (.int .i64 t.now), .p (.bool t.off)]
def JD (t : Ord) : Bool := decide (t.pick.place ≠ -1) && decide (t.drp.place ≠ -1)
def argOk (t : Ord) (ty : Int) : Bool := rng t.penalty (-1) 1000000 && rng t.split 1 4 && decide (¬ (1 < t.split /\ JD t = true) /\ -1 <= t.last /\ t.last < ty /\ -1 <= t.now /\ t.now < ty)
def Z5 (np : Nat) (d ty : Int) (l : List Ord) (i : Nat) : List Int := sel (nameOk (nth l i).name) 5 ++ sel (Xa l i) 6 ++ sel (loadOk (nth l i).load d) 17 ++ sel ((rng (nth l i).pick.place (-1) ((np : Int) - 1) && rng (nth l i).drp.place (-1) ((np : Int) - 1))) 11 ++ sel (decide (¬ ((nth l i).pick.place = -1 /\ (nth l i).drp.place = -1))) 19 ++ sel ((stpOk (nth l i).pick && stpOk (nth l i).drp)) 14 ++ sel (rng (nth l i).skills 0 1073741823) 18 ++ sel (argOk (nth l i) ty) 2
theorem WE (np : Nat) (d ty : Int) (l : List Ord) (i : Nat) : (Z5 np d ty l i).length <= 8 := by
 have h := X7;simp only [Z5, List.length_append];have h1 := fun b => h b 5;have h2 := fun b => h b 6;have h3 := fun b => h b 17;have h4 := fun b => h b 11;have h5 := fun b => h b 19;have h6 := fun b => h b 14;have h7 := fun b => h b 18;have h8 := fun b => h b 2;have a1 := h1 (nameOk (nth l i).name);have a2 := h2 (Xa l i);have a3 := h3 (loadOk (nth l i).load d);have a4 := h4 (rng (nth l i).pick.place (-1) ((np : Int) - 1) && rng (nth l i).drp.place (-1) ((np : Int) - 1));have a5 := h5 (decide (¬ ((nth l i).pick.place = -1 /\ (nth l i).drp.place = -1)));have a6 := h6 (stpOk (nth l i).pick && stpOk (nth l i).drp)
 have a7 := h7 (rng (nth l i).skills 0 1073741823);have a8 := h8 (argOk (nth l i) ty);omega
theorem Zag (np : Nat) (d ty : Int) (l : List Ord) (c : Bool) (i : Nat) (hi : i < l.length) (hl : l.length <= 1048576) (hnp : np <= 1048576) (ht : (nth l i).wf 1048576) :
  ACalls Tryd.prog 36 [.p (.int .i64 (np : Nat)), .p (.int .i64 d), .p (.int .i64 ty), .p (.list c (l.map Qa)), .p (.int .i64 (i : Nat))] [] fun x H' => x = .sl 0 0 (Z5 np d ty l i).length (Z5 np d ty l i).length /\ H' = [.elems 1 ((Z5 np d ty l i).map eI)] := by
 suffices hh : ACalls Tryd.prog 36 [.p (.int .i64 (np : Nat)), .p (.int .i64 d), .p (.int .i64 ty), .p (.list c (l.map Qa)), .p (.int .i64 (i : Nat))] [] fun x H' => ∃ m : List Int, m = Z5 np d ty l i /\ x = .sl 0 0 m.length m.length /\ H' = [.elems 1 (m.map eI)] by
  refine hh.mono ?_;rintro x H' ⟨m, rfl, h1, h2⟩;exact ⟨h1, h2⟩
 refine ZD [3] Tryd.func36 rfl ZnM ?_;simp (disch := omega) only [Tryd.f36, go_sem, seval];have hty : Z5 np d ty l i = sel (nameOk (nth l i).name) 5 ++ sel (Xa l i) 6 ++ sel (loadOk (nth l i).load d) 17 ++ sel ((rng (nth l i).pick.place (-1) ((np : Int) - 1) && rng (nth l i).drp.place (-1) ((np : Int) - 1))) 11 ++ sel (decide (¬ ((nth l i).pick.place = -1 /\ (nth l i).drp.place = -1))) 19 ++ sel ((stpOk (nth l i).pick && stpOk (nth l i).drp)) 14 ++ sel (rng (nth l i).skills 0 1073741823) 18 ++ sel (argOk (nth l i) ty) 2 := rfl
 have hleng : ∀ m : List Int, ∀ p : List Int, m = p -> p.length <= 8 -> m.length <= 8 := fun m p h1 h2 => by rw [h1]; exact h2
 generalize hga : nth l i = t at ht hty ⊢;have hname := ht.1;have hload := ht.2.1;refine Zr (Weak.ofNil 11 1 (by simp (disch := omega) only [go_sem, seval]) (by simp) (Weak.refl _ _ _)) ?_;refine Zo [0, 1, 2, 3, 4, 12] (fun m : List Int => [(11, .sl 1 0 m.length m.length)]) (fun m => [Xl t, .elems 1 (m.map eI)]) (fun m => m = sel (nameOk t.name) 5) ?_ ?_
 ·simp (disch := omega) only [go_sem, seval];refine (ZaB t.name hname).use ?_;simp (disch := omega) only [go_sem, seval];refine cD ?_ ?_ <;> intro h <;> simp (disch := omega) only [Sh.out h, go_sem, seval]
  ·simp only [Bool.not_eq_true'] at h;exact ⟨[5], by simp [sel, h], Weak.mk (by simp (disch := omega) only [Xl, go_sem, seval])⟩
  ·simp only [Bool.not_eq_false'] at h;exact ⟨[], by simp [sel, h], Weak.mk (by simp (disch := omega) only [Xl, go_sem, seval])⟩
 ·skip
  intro m hm;refine Za [5] _ _ _ _ ?_;simp (disch := omega) only [Xl, go_sem, seval]
  have hml : m.length <= 8 := by
   rw [hm]
   try simp only [List.length_append]
   have h := X7;have a0 := h (nameOk t.name) 5;omega
  refine Zo [0, 1, 2, 12] (fun m : List Int => [(11, .sl 1 0 m.length m.length)]) (fun m => [Xl t, .elems 1 (m.map eI)]) (fun m => m = sel (nameOk t.name) 5 ++ sel (Xa l i) 6) ?_ ?_
  ·simp (disch := omega) only [go_sem, seval];refine Zi [0, 1, 2, 3, 4, 11, 12] (fun k : Nat => [(13, .p (.int .i64 k))]) (fun _ => [Xl t, .elems 1 (m.map eI)]) (fun k => k <= i /\ ∀ j, j < k -> (nth l j).name ≠ (nth l i).name) (fun k => i - k) 0 (by simp) (Weak.mk ?_) ?_
   ·simp (disch := omega) only [Xl, go_sem, seval]
   ·rintro k ⟨hk, hno⟩;simp (disch := omega) only [Xl, go_sem, seval];refine cD ?_ ?_ <;> intro h3 <;> simp (disch := omega) only [Sh.out h3, go_sem, seval]
    ·have hk2 : k < l.length := by omega
     refine Zf mixed (by kernel_rfl) (by kernel_rfl) ?_;simp (disch := omega) only [go_sem, seval];refine cD ?_ ?_ <;> intro h4 <;> simp (disch := omega) only [Sh.out h4, go_sem, seval]
     ·exact ⟨m ++ [6], Ye hm (by cases hq : Xa l i with | false => rfl | true => exact absurd (by rw [hga]; exact h4) (YN.1 hq k (by omega))), Weak.mk (by simp (disch := omega) only [Xl, go_sem, seval])⟩
     ·exact ⟨k + 1, ⟨by omega, Zu.2 ⟨hno, by rw [hga]; exact h4⟩⟩, by omega, Weak.mk (by simp (disch := omega) only [Xl, go_sem, seval])⟩
    ·have hki : k = i := by omega
     subst hki;exact ⟨m, Yl hm (YN.2 hno), Weak.mk (by simp (disch := omega) only [Xl, go_sem, seval])⟩
  ·clear hm hml;intro m hm;refine Za [10] _ _ _ _ ?_;simp (disch := omega) only [Xl, go_sem, seval]
   have hml : m.length <= 8 := by
    rw [hm]
    try simp only [List.length_append]
    have h := X7;have a0 := h (nameOk t.name) 5;have a1 := h (Xa l i) 6;omega
   refine Zo [0, 2, 12] (fun m : List Int => [(11, .sl 1 0 m.length m.length)]) (fun m => [Xl t, .elems 1 (m.map eI)]) (fun m => m = sel (nameOk t.name) 5 ++ sel (Xa l i) 6 ++ sel (loadOk t.load d) 17) ?_ ?_
   ·simp (disch := omega) only [go_sem, seval];refine (ZbM t.load t.load_c d hload).use ?_;simp (disch := omega) only [go_sem, seval];refine cD ?_ ?_ <;> intro h <;> simp (disch := omega) only [Sh.out h, go_sem, seval]
    ·simp only [Bool.not_eq_true'] at h;exact ⟨m ++ [17], Ye hm (h), Weak.mk (by simp (disch := omega) only [Xl, go_sem, seval])⟩
    ·simp only [Bool.not_eq_false'] at h;exact ⟨m, Yl hm (h), Weak.mk (by simp (disch := omega) only [Xl, go_sem, seval])⟩
   ·clear hm hml;intro m hm;refine Za [12] _ _ _ _ ?_;simp (disch := omega) only [Xl, go_sem, seval]
    have hml : m.length <= 8 := by
     rw [hm]
     try simp only [List.length_append]
     have h := X7;have a0 := h (nameOk t.name) 5;have a1 := h (Xa l i) 6;have a2 := h (loadOk t.load d) 17;omega
    refine Zo [2, 12] (fun m : List Int => [(11, .sl 1 0 m.length m.length)]) (fun m => [Xl t, .elems 1 (m.map eI)]) (fun m => m = sel (nameOk t.name) 5 ++ sel (Xa l i) 6 ++ sel (loadOk t.load d) 17 ++ sel ((rng t.pick.place (-1) ((np : Int) - 1) && rng t.drp.place (-1) ((np : Int) - 1))) 11) ?_ ?_
    ·simp (disch := omega) only [go_sem, seval];refine (UY t.pick.place (-1) ((np : Int) - 1)).use ?_;simp (disch := omega) only [go_sem, seval];refine gF ?_ ?_ <;> intro h <;> simp (disch := omega) only [Sh.out h, go_sem, seval]
     ·simp only [Bool.not_eq_true'] at h;exact ⟨m ++ [11], Ye hm (by simp [h]), Weak.mk (by simp (disch := omega) only [Xl, go_sem, seval])⟩
     ·simp only [Bool.not_eq_false'] at h;refine (UY t.drp.place (-1) ((np : Int) - 1)).use ?_;simp (disch := omega) only [go_sem, seval];refine cD ?_ ?_ <;> intro h2 <;> simp (disch := omega) only [Sh.out h2, go_sem, seval]
      ·simp only [Bool.not_eq_true'] at h2;exact ⟨m ++ [11], Ye hm (by simp [h2]), Weak.mk (by simp (disch := omega) only [Xl, go_sem, seval])⟩
      ·simp only [Bool.not_eq_false'] at h2;exact ⟨m, Yl hm (by simp [h, h2]), Weak.mk (by simp (disch := omega) only [Xl, go_sem, seval])⟩
    ·clear hm hml;intro m hm;refine Za [14] _ _ _ _ ?_;simp (disch := omega) only [Xl, go_sem, seval]
     have hml : m.length <= 8 := by
      rw [hm]
      try simp only [List.length_append]
      have h := X7;have a0 := h (nameOk t.name) 5;have a1 := h (Xa l i) 6;have a2 := h (loadOk t.load d) 17;have a3 := h ((rng t.pick.place (-1) ((np : Int) - 1) && rng t.drp.place (-1) ((np : Int) - 1))) 11;omega
     refine Zo [2, 12] (fun m : List Int => [(11, .sl 1 0 m.length m.length)]) (fun m => [Xl t, .elems 1 (m.map eI)]) (fun m => m = sel (nameOk t.name) 5 ++ sel (Xa l i) 6 ++ sel (loadOk t.load d) 17 ++ sel ((rng t.pick.place (-1) ((np : Int) - 1) && rng t.drp.place (-1) ((np : Int) - 1))) 11 ++ sel (decide (¬ (t.pick.place = -1 /\ t.drp.place = -1))) 19) ?_ ?_
     ·simp (disch := omega) only [go_sem, seval]
      repeat' (first | (refine ZI (fun hq => ?_) (fun hq => ?_) <;> (try simp only [decide_eq_true_eq, decide_eq_false_iff_not, Classical.not_not] at hq) <;> simp (disch := omega) only [Sh.out hq, go_sem, seval]) | (refine ZJ (fun hq => ?_) (fun hq => ?_) <;> (try simp only [decide_eq_true_eq, decide_eq_false_iff_not, Classical.not_not] at hq) <;> simp (disch := omega) only [Sh.out hq, go_sem, seval]) | (refine ZV (fun hq => ?_) (fun hq => ?_) <;> (try simp only [decide_eq_true_eq, decide_eq_false_iff_not, Classical.not_not] at hq) <;> simp (disch := omega) only [Sh.out hq, go_sem, seval]))
      all_goals first
       | exact ⟨m ++ [19], Ye hm (by first | (simp; done) | (simp; omega)), Weak.mk (by simp (disch := omega) only [Xl, go_sem, seval])⟩
       | exact ⟨m, Yl hm (by first | (simp; done) | (simp; omega)), Weak.mk (by simp (disch := omega) only [Xl, go_sem, seval])⟩
     ·clear hm hml;intro m hm;refine Za [16] _ _ _ _ ?_;simp (disch := omega) only [Xl, go_sem, seval]
      have hml : m.length <= 8 := by
       rw [hm]
       try simp only [List.length_append]
       have h := X7;have a0 := h (nameOk t.name) 5;have a1 := h (Xa l i) 6;have a2 := h (loadOk t.load d) 17;have a3 := h ((rng t.pick.place (-1) ((np : Int) - 1) && rng t.drp.place (-1) ((np : Int) - 1))) 11;have a4 := h (decide (¬ (t.pick.place = -1 /\ t.drp.place = -1))) 19;omega
      refine Zo [2, 12] (fun m : List Int => [(11, .sl 1 0 m.length m.length)]) (fun m => [Xl t, .elems 1 (m.map eI)]) (fun m => m = sel (nameOk t.name) 5 ++ sel (Xa l i) 6 ++ sel (loadOk t.load d) 17 ++ sel ((rng t.pick.place (-1) ((np : Int) - 1) && rng t.drp.place (-1) ((np : Int) - 1))) 11 ++ sel (decide (¬ (t.pick.place = -1 /\ t.drp.place = -1))) 19 ++ sel ((stpOk t.pick && stpOk t.drp)) 14) ?_ ?_
      ·simp (disch := omega) only [go_sem, seval];refine (ZdS t.pick).use ?_;simp (disch := omega) only [go_sem, seval]
       cases h : stpOk t.pick with
       | false =>
        simp (disch := omega) only [Zf4, h, go_sem, seval];exact ⟨m ++ [14], Ye hm (by simp [h]), Weak.mk (by simp (disch := omega) only [Xl, go_sem, seval])⟩
       | true =>
        simp (disch := omega) only [Zf4, h, go_sem, seval];refine (ZdS t.drp).use ?_;simp (disch := omega) only [go_sem, seval]
        cases h2 : stpOk t.drp with
        | false =>
         simp (disch := omega) only [Zf4, h2, go_sem, seval];exact ⟨m ++ [14], Ye hm (by simp [h2]), Weak.mk (by simp (disch := omega) only [Xl, go_sem, seval])⟩
        | true =>
         simp (disch := omega) only [Zf4, h2, go_sem, seval];exact ⟨m, Yl hm (by simp [h, h2]), Weak.mk (by simp (disch := omega) only [Xl, go_sem, seval])⟩
      ·clear hm hml;intro m hm;refine Za [18] _ _ _ _ ?_;simp (disch := omega) only [Xl, go_sem, seval]
       have hml : m.length <= 8 := by
        rw [hm]
        try simp only [List.length_append]
        have h := X7;have a0 := h (nameOk t.name) 5;have a1 := h (Xa l i) 6;have a2 := h (loadOk t.load d) 17;have a3 := h ((rng t.pick.place (-1) ((np : Int) - 1) && rng t.drp.place (-1) ((np : Int) - 1))) 11;have a4 := h (decide (¬ (t.pick.place = -1 /\ t.drp.place = -1))) 19;have a5 := h ((stpOk t.pick && stpOk t.drp)) 14;omega
       refine Zo [2, 12] (fun m : List Int => [(11, .sl 1 0 m.length m.length)]) (fun m => [Xl t, .elems 1 (m.map eI)]) (fun m => m = sel (nameOk t.name) 5 ++ sel (Xa l i) 6 ++ sel (loadOk t.load d) 17 ++ sel ((rng t.pick.place (-1) ((np : Int) - 1) && rng t.drp.place (-1) ((np : Int) - 1))) 11 ++ sel (decide (¬ (t.pick.place = -1 /\ t.drp.place = -1))) 19 ++ sel ((stpOk t.pick && stpOk t.drp)) 14 ++ sel (rng t.skills 0 1073741823) 18) ?_ ?_
       ·simp (disch := omega) only [go_sem, seval];refine (UY t.skills 0 1073741823).use ?_;simp (disch := omega) only [go_sem, seval];refine cD ?_ ?_ <;> intro h <;> simp (disch := omega) only [Sh.out h, go_sem, seval]
        ·simp only [Bool.not_eq_true'] at h;exact ⟨m ++ [18], Ye hm (h), Weak.mk (by simp (disch := omega) only [Xl, go_sem, seval])⟩
        ·simp only [Bool.not_eq_false'] at h;exact ⟨m, Yl hm (h), Weak.mk (by simp (disch := omega) only [Xl, go_sem, seval])⟩
       ·clear hm hml;intro m hm;refine Za [20] _ _ _ _ ?_;simp (disch := omega) only [Xl, go_sem, seval]
        have hml : m.length <= 8 := by
         rw [hm]
         try simp only [List.length_append]
         have h := X7;have a0 := h (nameOk t.name) 5;have a1 := h (Xa l i) 6;have a2 := h (loadOk t.load d) 17;have a3 := h ((rng t.pick.place (-1) ((np : Int) - 1) && rng t.drp.place (-1) ((np : Int) - 1))) 11;have a4 := h (decide (¬ (t.pick.place = -1 /\ t.drp.place = -1))) 19;have a5 := h ((stpOk t.pick && stpOk t.drp)) 14;have a6 := h (rng t.skills 0 1073741823) 18;omega
        refine Zo [2, 11, 12] (fun b : Bool => [(14, .p (.bool b))]) (fun _ => [Xl t, .elems 1 (m.map eI)]) (fun b => b = JD t) ?_ ?_
        ·simp (disch := omega) only [go_sem, seval]
         repeat' (first | (refine ZI (fun hq => ?_) (fun hq => ?_) <;> (try simp only [decide_eq_true_eq, decide_eq_false_iff_not, Classical.not_not] at hq) <;> simp (disch := omega) only [Sh.out hq, go_sem, seval]) | (refine ZJ (fun hq => ?_) (fun hq => ?_) <;> (try simp only [decide_eq_true_eq, decide_eq_false_iff_not, Classical.not_not] at hq) <;> simp (disch := omega) only [Sh.out hq, go_sem, seval]) | (refine ZV (fun hq => ?_) (fun hq => ?_) <;> (try simp only [decide_eq_true_eq, decide_eq_false_iff_not, Classical.not_not] at hq) <;> simp (disch := omega) only [Sh.out hq, go_sem, seval]))
         all_goals refine ⟨JD t, rfl, Weak.mk ?_⟩
         all_goals (simp (disch := omega) only [Xl, go_sem, seval]; simp [JD, *])
        ·rintro b hb;refine Za [21] _ _ _ _ ?_;simp (disch := omega) only [Xl, go_sem, seval];refine Zo [] (fun m : List Int => [(11, .sl 1 0 m.length m.length)]) (fun m => [Xl t, .elems 1 (m.map eI)]) (fun m => m = sel (nameOk t.name) 5 ++ sel (Xa l i) 6 ++ sel (loadOk t.load d) 17 ++ sel ((rng t.pick.place (-1) ((np : Int) - 1) && rng t.drp.place (-1) ((np : Int) - 1))) 11 ++ sel (decide (¬ (t.pick.place = -1 /\ t.drp.place = -1))) 19 ++ sel ((stpOk t.pick && stpOk t.drp)) 14 ++ sel (rng t.skills 0 1073741823) 18 ++ sel (argOk t ty) 2) ?_ ?_
         ·simp (disch := omega) only [go_sem, seval];refine (UY t.penalty (-1) 1000000).use ?_;simp (disch := omega) only [go_sem, seval];refine gF ?_ ?_ <;> intro h <;> simp (disch := omega) only [Sh.out h, go_sem, seval]
          ·simp only [Bool.not_eq_true'] at h;exact ⟨m ++ [2], Ye hm (by simp [argOk, h]), Weak.mk (by simp (disch := omega) only [Xl, go_sem, seval])⟩
          ·simp only [Bool.not_eq_false'] at h;refine (UY t.split 1 4).use ?_;simp (disch := omega) only [go_sem, seval];refine gF ?_ ?_ <;> intro h2 <;> simp (disch := omega) only [Sh.out h2, go_sem, seval]
           ·simp only [Bool.not_eq_true'] at h2;exact ⟨m ++ [2], Ye hm (by simp [argOk, h2]), Weak.mk (by simp (disch := omega) only [Xl, go_sem, seval])⟩
           ·simp only [Bool.not_eq_false'] at h2
            cases b with
            | true =>
             repeat' (first | (refine ZI (fun hq => ?_) (fun hq => ?_) <;> (try simp only [decide_eq_true_eq, decide_eq_false_iff_not, Classical.not_not] at hq) <;> simp (disch := omega) only [Sh.out hq, go_sem, seval]) | (refine ZJ (fun hq => ?_) (fun hq => ?_) <;> (try simp only [decide_eq_true_eq, decide_eq_false_iff_not, Classical.not_not] at hq) <;> simp (disch := omega) only [Sh.out hq, go_sem, seval]) | (refine ZV (fun hq => ?_) (fun hq => ?_) <;> (try simp only [decide_eq_true_eq, decide_eq_false_iff_not, Classical.not_not] at hq) <;> simp (disch := omega) only [Sh.out hq, go_sem, seval]))
             all_goals first
              | exact ⟨m ++ [2], Ye hm (by rw [argOk, <- hb]; first | (simp; done) | (simp; omega)), Weak.mk (by simp (disch := omega) only [Xl, go_sem, seval])⟩
              | exact ⟨m, Yl hm (by rw [argOk, <- hb, h, h2]; first | (simp; done) | (simp; omega)), Weak.mk (by simp (disch := omega) only [Xl, go_sem, seval])⟩
            | false =>
             repeat' (first | (refine ZI (fun hq => ?_) (fun hq => ?_) <;> (try simp only [decide_eq_true_eq, decide_eq_false_iff_not, Classical.not_not] at hq) <;> simp (disch := omega) only [Sh.out hq, go_sem, seval]) | (refine ZJ (fun hq => ?_) (fun hq => ?_) <;> (try simp only [decide_eq_true_eq, decide_eq_false_iff_not, Classical.not_not] at hq) <;> simp (disch := omega) only [Sh.out hq, go_sem, seval]) | (refine ZV (fun hq => ?_) (fun hq => ?_) <;> (try simp only [decide_eq_true_eq, decide_eq_false_iff_not, Classical.not_not] at hq) <;> simp (disch := omega) only [Sh.out hq, go_sem, seval]))
             all_goals first
              | exact ⟨m ++ [2], Ye hm (by rw [argOk, <- hb]; first | (simp; done) | (simp; omega)), Weak.mk (by simp (disch := omega) only [Xl, go_sem, seval])⟩
              | exact ⟨m, Yl hm (by rw [argOk, <- hb, h, h2]; first | (simp; done) | (simp; omega)), Weak.mk (by simp (disch := omega) only [Xl, go_sem, seval])⟩
         ·clear hm hml;intro m hm;refine Za [] _ _ _ _ ?_;simp (disch := omega) only [Xl, go_sem, seval]
          have hml : m.length <= 8 := by
           rw [hm]
           try simp only [List.length_append]
           have h := X7;have a0 := h (nameOk t.name) 5;have a1 := h (Xa l i) 6;have a2 := h (loadOk t.load d) 17;have a3 := h ((rng t.pick.place (-1) ((np : Int) - 1) && rng t.drp.place (-1) ((np : Int) - 1))) 11;have a4 := h (decide (¬ (t.pick.place = -1 /\ t.drp.place = -1))) 19;have a5 := h ((stpOk t.pick && stpOk t.drp)) 14;have a6 := h (rng t.skills 0 1073741823) 18;have a7 := h (argOk t ty) 2;omega
          exact ⟨m, by rw [hm, hty], 1, by simp (disch := omega) only [Xl, go_sem, seval]⟩
def ZM (np : Nat) (d ty : Int) (l : List Ord) (k : Nat) : List Flt := (if l.length <= 10 then [] else [(4, [])]) ++ (List.range k).flatMap fun i => (Z5 np d ty l i).map fun e => (e, QK i)
theorem WF (np : Nat) (d ty : Int) (l : List Ord) (k : Nat) : ZM np d ty l (k + 1) = ZM np d ty l k ++ (Z5 np d ty l k).map fun e => (e, QK k) := by
 simp [ZM, List.range_succ]
theorem X3 (np : Nat) (d ty : Int) (l : List Ord) : ∀ k, (ZM np d ty l k).length <= 1 + 8 * k
 | 0 => by simp [ZM]; split <;> simp
 | k + 1 => by
  have h1 := X3 np d ty l k;have h2 := WE np d ty l k;rw [WF];simp;omega
theorem ZiU (n : Net) (d ty : Int) (l : List Ord) (c : Bool) (hw : n.wf 1048576) (hl : l.length <= 1048576) (hlw : ∀ t ∈ l, t.wf 1048576) :
  ACalls Tryd.prog 15 [.p (Zec n), .p (.int .i64 d), .p (.int .i64 ty), .p (.list c (l.map Qa))] [] fun x H' => x = .sl 0 0 (ZM n.places.length d ty l l.length).length (ZM n.places.length d ty l l.length).length /\ H' = [.elems 2 ((ZM n.places.length d ty l l.length).map eF)] := by
 obtain ⟨w1, w2, w3, w4⟩ := hw
 suffices hh : ACalls Tryd.prog 15 [.p (Zec n), .p (.int .i64 d), .p (.int .i64 ty), .p (.list c (l.map Qa))] [] fun x H' => ∃ m : List Flt, m = ZM n.places.length d ty l l.length /\ x = .sl 0 0 m.length m.length /\ H' = [.elems 2 (m.map eF)] by
  refine hh.mono ?_;rintro x H' ⟨m, rfl, h1, h2⟩;exact ⟨h1, h2⟩
 refine ZD [2] Tryd.func15 rfl ZnG ?_;simp (disch := omega) only [Tryd.f15, go_sem, seval];refine Zr (Weak.ofNil 9 2 (by simp (disch := omega) only [go_sem, seval]) (by simp) (Weak.refl _ _ _)) ?_;refine Zo [1, 2, 3, 4] (fun m : List Flt => [(9, .sl 1 0 m.length m.length)]) (fun m => Zt n ++ [.elems 2 (m.map eF)]) (fun m => m = ZM n.places.length d ty l 0) ?_ ?_
 ·simp (disch := omega) only [go_sem, seval];refine cD ?_ ?_ <;> intro h <;> simp (disch := omega) only [Sh.out h, go_sem, seval]
  ·exact ⟨[(4, [])], by rw [ZM, if_neg (by omega)]; rfl, Weak.mk (by simp (disch := omega) only [Zt, go_sem, seval])⟩
  ·exact ⟨[], by rw [ZM, if_pos (by omega)]; rfl, Weak.mk (by simp (disch := omega) only [Zt, go_sem, seval])⟩
 ·intro m hm;refine Za [] _ _ _ _ ?_;simp (disch := omega) only [Zt, go_sem, seval];refine Zi [1, 2, 3, 4] (fun q : Nat × List Flt => [(9, .sl 1 0 q.2.length q.2.length), (10, .p (.int .i64 q.1))]) (fun q => Zt n ++ [.elems 2 (q.2.map eF)]) (fun q => q.1 <= l.length /\ q.2 = ZM n.places.length d ty l q.1) (fun q => l.length - q.1) (0, m) ⟨by simp, hm⟩ (Weak.mk ?_) ?_
  ·simp (disch := omega) only [Zt, go_sem, seval]
  ·clear hm;rintro ⟨k, m⟩ ⟨hk, hm⟩;simp only at hk hm;have hml := X3 n.places.length d ty l k;rw [<- hm] at hml;simp (disch := omega) only [Zt, go_sem, seval];refine cD ?_ ?_ <;> intro h <;> simp (disch := omega) only [Sh.out h, go_sem, seval]
   ·have hk2 : k < l.length := by omega
    have hI : I64 (k : Int) := by omega
    have hrl := WE n.places.length d ty l k;refine ((Zag n.places.length d ty l c k hk2 hl w1 (hlw _ (YP hk2))).frozen (by simp)).use ?_;simp (disch := omega) only [go_sem, seval];generalize hre : Z5 n.places.length d ty l k = e at hrl ⊢;refine Zi [1, 2, 3, 4, 10, 11] (fun q : Nat × List Flt => [(9, .sl 1 0 q.2.length q.2.length), (12, .p (.int .i64 q.1))]) (fun q => Zt n ++ [.elems 2 (q.2.map eF)]) (fun q => q.1 <= e.length /\ q.2 = ZM n.places.length d ty l k ++ (e.take q.1).map fun e => (e, QK k)) (fun q => e.length - q.1) (0, m) ⟨by simp, by simp [hm]⟩ (Weak.mk ?_) ?_
    ·simp (disch := omega) only [Zt, go_sem, seval]
    ·clear hm hml;rintro ⟨j, m⟩ ⟨hj, hm⟩;simp only at hj hm;have hml := X3 n.places.length d ty l k
     have hml2 : m.length <= 1 + 8 * k + 8 := by rw [hm]; simp; omega
     simp (disch := omega) only [Zt, go_sem, seval];refine cD ?_ ?_ <;> intro h2 <;> simp (disch := omega) only [Sh.out h2, go_sem, seval]
     ·have hj2 : j < e.length := by omega
      refine ZU 9 mixed (by kernel_rfl) (by kernel_rfl) ?_;simp (disch := omega) only [go_sem, seval];refine Zp (Wh k hI) ?_;simp (disch := omega) only [go_sem, seval];refine ⟨(j + 1, m ++ [(nth e j, QK k)]), ⟨by simp only; omega, ?_⟩, by simp only; omega, Weak.mk (by simp (disch := omega) only [Zt, go_sem, seval])⟩;simp only [hm, List.append_assoc];rw [List.take_succ_eq_append_getElem hj2, List.map_append, Zm hj2]
      rfl
     ·have hjl : j = e.length := by omega
      subst hjl;refine ⟨(k + 1, m), ⟨by simp only; omega, ?_⟩, by simp only; omega, Weak.mk (by simp (disch := omega) only [Zt, go_sem, seval])⟩;simp only [hm, WF, hre, List.take_length]
   ·have hkn : k = l.length := by omega
    subst hkn;exact ⟨m, hm, 1, by simp (disch := omega) only [Zt, go_sem, seval]⟩
structure OrdOk (np : Nat) (d ty : Int) (l : List Ord) (i : Nat) : Prop where
 name : nameOk (nth l i).name = true
 twin : ∀ j, j < i -> (nth l j).name ≠ (nth l i).name
 load : loadOk (nth l i).load d = true
 pick : -1 <= (nth l i).pick.place /\ (nth l i).pick.place < np
 drp : -1 <= (nth l i).drp.place /\ (nth l i).drp.place < np
 one : ¬ ((nth l i).pick.place = -1 /\ (nth l i).drp.place = -1)
 pstp : stpOk (nth l i).pick = true
 dstp : stpOk (nth l i).drp = true
 skills : 0 <= (nth l i).skills /\ (nth l i).skills <= 1073741823
 arg : argOk (nth l i) ty = true
theorem Zej {b : Bool} {e : Int} : sel b e = [] ↔ b = true := by unfold sel; split <;> simp_all
theorem Qq {np : Nat} {d ty : Int} {l : List Ord} {i : Nat} : Z5 np d ty l i = [] ↔ OrdOk np d ty l i := by
 simp only [Z5, List.append_eq_nil_iff, Zej, Bool.and_eq_true, decide_eq_true_eq, rng, YN]
 constructor
 ·rintro ⟨⟨⟨⟨⟨⟨⟨a1, a2⟩, a3⟩, a4⟩, a5⟩, a6⟩, a7⟩, a8⟩;exact ⟨a1, a2, a3, by omega, by omega, a5, a6.1, a6.2, a7, a8⟩
 ·intro h;obtain ⟨b1, b2⟩ := h.pick;obtain ⟨b3, b4⟩ := h.drp;exact ⟨⟨⟨⟨⟨⟨⟨h.name, h.twin⟩, h.load⟩, by omega, by omega⟩, h.one⟩, h.pstp, h.dstp⟩, h.skills⟩, h.arg⟩
def ordersOk (np : Nat) (d ty : Int) (l : List Ord) : Prop := l.length <= 10 /\ ∀ i, i < l.length -> OrdOk np d ty l i
theorem W5 {np : Nat} {d ty : Int} {l : List Ord} : ZM np d ty l l.length = [] ↔ ordersOk np d ty l := by
 simp only [ZM, List.append_eq_nil_iff, List.flatMap_eq_nil_iff, List.mem_range, List.map_eq_nil_iff, Qq, ordersOk];refine and_congr ?_ Iff.rfl
 split <;> simp_all
theorem Kt {np : Nat} {d ty : Int} {l : List Ord} (hl : l.length <= 1048576) : ∀ f ∈ ZM np d ty l l.length, pF 20 f := by
 intro f hf;simp only [ZM, List.mem_append, List.mem_flatMap, List.mem_range, List.mem_map] at hf;rcases hf with hf | ⟨i, hi, e, he, rfl⟩
 ·split at hf <;> simp at hf
  subst hf; simp [pF]
 ·exact Yt i (by omega)
theorem KP (n : Int) (h0 : 0 <= n) (hn : n <= 4611686018427387904) : PC 62 [.p (.int .i64 n)] (.str (dec n.toNat)) := by
 refine Zb Tryd.func62 rfl Zmw ?_;simp (disch := omega) only [Tryd.f62, go_sem, seval];refine Zi [] (fun q : Int × List UInt8 => [(0, .p (.int .i64 q.1)), (3, .p (.str q.2))]) (fun _ => []) (fun q => 0 <= q.1 /\ q.1 <= n /\ dec q.1.toNat ++ q.2 = dec n.toNat) (fun q => q.1.toNat) (n, []) (by simp [h0]) (Weak.mk ?_) ?_
 ·simp (disch := omega) only [go_sem, seval]
 ·rintro ⟨m, s⟩ ⟨hm, hmn, hs⟩;simp only at hm hmn hs;have hl := ZaL _ n.toNat (Nat.lt_succ_self _)
  have hl2 : (dec m.toNat).length + s.length = (dec n.toNat).length := by rw [<- hs]; simp
  simp (disch := first | omega | (simp only [List.length_cons, List.length_nil, List.length_append, List.length_map, List.length_take, List.length_drop] <;> omega)) only [go_sem, seval];refine cD ?_ ?_ <;> intro h <;> simp (disch := omega) only [Sh.out h, go_sem, seval]
  ·simp (disch := first | omega | (simp only [List.length_cons, List.length_nil, List.length_append, List.length_map, List.length_take, List.length_drop] <;> omega)) only [go_sem, seval]
   have h2 : ¬ m.toNat < 10 := by omega
   have e1 : (48 + m % 10).toNat = 48 + m.toNat % 10 := by omega
   have e2 : (m / 10).toNat = m.toNat / 10 := by omega
   refine ⟨(m / 10, UInt8.ofNat (48 + m % 10).toNat :: s), ⟨by simp only; omega, by simp only; omega, ?_⟩, by simp only; omega, Weak.mk ?_⟩
   ·simp only [e1, e2];rw [<- hs, dec.eq_def m.toNat, dif_neg h2];simp
   ·simp (disch := omega) only [go_sem, seval]
  ·simp (disch := first | omega | (simp only [List.length_cons, List.length_nil, List.length_append, List.length_map, List.length_take, List.length_drop] <;> omega)) only [go_sem, seval]
   have h2 : m.toNat < 10 := by omega
   have e1 : (48 + m).toNat = 48 + m.toNat := by omega
   rw [<- hs, dec.eq_def m.toNat, dif_pos h2, e1]
   rfl
def okP (n : Int) (p : Int × Int) : Bool := decide (0 <= p.1 /\ p.1 < n) && decide (0 <= p.2 /\ p.2 < n) && decide (¬ p.1 = p.2)
def atW (word : List UInt8) (i : Nat) : List UInt8 := word ++ [32] ++ dec i
def flt (n : Int) (word : List UInt8) (sm : Int × Int -> Int × Int -> Bool) (l : List (Int × Int)) (i : Nat) : List (Int × List UInt8) :=
 if okP n (nth l i) = false then [(2, atW word i)] else if (l.take i).any (sm (nth l i)) then [(6, atW word i)] else []
def hdr (word : List UInt8) (l : List (Int × Int)) : List (Int × List UInt8) := if 16 < l.length then [(4, word)] else []
def U0 (n : Int) (word : List UInt8) (sm : Int × Int -> Int × Int -> Bool) (l : List (Int × Int)) (k : Nat) : List (Int × List UInt8) := hdr word l ++ (List.range k).flatMap (flt n word sm l)
theorem U7 (n word sm l k) : U0 n word sm l (k + 1) = U0 n word sm l k ++ flt n word sm l k := by simp [U0, List.range_succ, List.flatMap_append]
theorem U8 (n word sm l) : U0 n word sm l 0 = hdr word l := by simp [U0]
theorem Zfo (n word sm l i) : (flt n word sm l i).length <= 1 := by unfold flt; split <;> (try split) <;> simp
theorem Wa (n word sm l) : ∀ k, (U0 n word sm l k).length <= k + 1 := by
 intro k
 induction k with
 | zero => rw [U8]; unfold hdr; split <;> simp
 | succ k ih => rw [U7]; have := Zfo n word sm l k; simp; omega
def chk (n : Int) (ap be : List (Int × Int)) : List (Int × List UInt8) :=
 U0 n [97, 112, 97, 114, 116] (fun p q => decide (p = q \/ (p.1 = q.2 /\ p.2 = q.1))) ap ap.length ++ U0 n [98, 101, 102, 111, 114, 101] (fun p q => decide (p = q)) be be.length
def smR (turned : Bool) (p q : Int × Int) : Bool := decide (q.1 = p.1 /\ q.2 = p.2) || (turned && decide (q.1 = p.2 /\ q.2 = p.1))
theorem Zc7 : smR true = fun p q => decide (p = q \/ (p.1 = q.2 /\ p.2 = q.1)) := by
 funext p q
 simp only [smR, Bool.true_and, ZhC]
 congr 1
 simp only [Prod.ext_iff, eq_iff_iff]
 constructor
 ·rintro (h | h)
  ·exact .inl ⟨h.1.symm, h.2.symm⟩
  ·exact .inr ⟨h.2.symm, h.1.symm⟩
 ·rintro (h | h)
  ·exact .inl ⟨h.1.symm, h.2.symm⟩
  ·exact .inr ⟨h.2.symm, h.1.symm⟩
theorem Zbo : smR false = fun p q => decide (p = q) := by
 funext p q
 simp only [smR, Bool.false_and, Bool.or_false]
 congr 1
 simp only [Prod.ext_iff, eq_iff_iff];exact ⟨fun h => ⟨h.1.symm, h.2.symm⟩, fun h => ⟨h.1.symm, h.2.symm⟩⟩
def tw (turned : Bool) (l : List (Int × Int)) (p : Int × Int) (j : Nat) : Bool := (l.take j).any (smR turned p)
theorem Zer (turned l p) : tw turned l p 0 = false := by simp [tw]
theorem Zes (turned : Bool) (l : List (Int × Int)) (p : Int × Int) (j : Nat) (h : j < l.length) : tw turned l p (j + 1) = (tw turned l p j || smR turned p (nth l j)) := by
 rw [tw, tw, List.take_succ_eq_append_getElem h, List.any_append, Zm h];simp only [List.any_cons, List.any_nil, Bool.or_false]
theorem JP (n : Int) (word : List UInt8) (l : List (Int × Int)) (c : Bool) (turned : Bool) (hw : word.length <= 1000) (hl : l.length <= 1048576) :
  ACalls Tryd.prog 37 [.p (.int .i64 n), .p (.list c (l.map eP)), .p (.str word), .p (.bool turned)] [] fun x H' => x = .sl 0 0 (U0 n word (smR turned) l l.length).length (U0 n word (smR turned) l l.length).length /\ H' = [.elems 2 ((U0 n word (smR turned) l l.length).map eF)] := by
 refine Uc [2] (fn := Tryd.f37) (by simp) Tryd.func37 rfl Znt ?_;simp (disch := omega) only [Tryd.f37, go_sem, seval];refine Zr (Weak.ofNil 9 2 (by simp (disch := omega) only [go_sem, seval]) (by simp) (Weak.refl _ _ _)) ?_;simp (disch := omega) only [go_sem, seval];refine Zo [0, 1, 2, 3] (fun _ : Unit => [(9, .sl 0 0 (hdr word l).length (hdr word l).length)]) (fun _ => [.elems 2 ((hdr word l).map eF)]) (fun _ => True) ?_ ?_
 ·simp (disch := omega) only [go_sem, seval];refine cD ?_ ?_ <;> intro h <;> simp (disch := omega) only [Sh.out h, go_sem, seval]
  ·refine ⟨(), Weak.mk ?_⟩
   have h2 : 16 < l.length := by omega
   simp (disch := omega) only [hdr, h2, go_sem, seval]
  ·refine ⟨(), Weak.mk ?_⟩
   have h2 : ¬ 16 < l.length := by omega
   simp (disch := omega) only [hdr, h2, go_sem, seval]
 ·intro _ _;refine Za [] _ _ _ _ ?_;simp (disch := omega) only [go_sem, seval];refine Zi [0, 1, 2, 3] (fun k : Nat => [(9, .sl 0 0 (U0 n word (smR turned) l k).length (U0 n word (smR turned) l k).length), (10, .p (.int .i64 k))]) (fun k => [.elems 2 ((U0 n word (smR turned) l k).map eF)]) (fun k => k <= l.length) (fun k => l.length - k) 0 (by simp) (Weak.mk ?_) ?_
  ·simp (disch := omega) only [U8, go_sem, seval]
  ·intro k hk;have hfl := Wa n word (smR turned) l k;have hdl := ZaL _ k (Nat.lt_succ_self _);simp (disch := omega) only [go_sem, seval];refine cD ?_ ?_ <;> intro h <;> simp (disch := omega) only [Sh.out h, go_sem, seval]
   ·have hk2 : k < l.length := by omega
    simp (disch := first | omega | (simp only [List.length_cons, List.length_nil, List.length_append, List.length_map, List.length_take, List.length_drop] <;> omega)) only [go_sem, seval];refine (KP (k : Int) (by omega) (by omega)).use ?_;simp (disch := first | omega | (simp only [List.length_cons, List.length_nil, List.length_append, List.length_map, List.length_take, List.length_drop] <;> omega)) only [go_sem, seval];have hs := U7 n word (smR turned) l k
    have hbad : okP n (nth l k) = false -> flt n word (smR turned) l k = [(2, word ++ [32] ++ dec k)] := fun e => by simp [flt, e, atW]
    repeat' (first | (refine ZI (fun hq => ?_) (fun hq => ?_) <;> (try simp only [decide_eq_true_eq, decide_eq_false_iff_not, Classical.not_not] at hq) <;> simp (disch := omega) only [Sh.out hq, go_sem, seval]) | (refine ZJ (fun hq => ?_) (fun hq => ?_) <;> (try simp only [decide_eq_true_eq, decide_eq_false_iff_not, Classical.not_not] at hq) <;> simp (disch := omega) only [Sh.out hq, go_sem, seval]) | (refine ZV (fun hq => ?_) (fun hq => ?_) <;> (try simp only [decide_eq_true_eq, decide_eq_false_iff_not, Classical.not_not] at hq) <;> simp (disch := omega) only [Sh.out hq, go_sem, seval]))
    all_goals try (
     have e := hbad (by simp [okP]; omega)
     exact ⟨k + 1, by omega, by omega, Weak.mk (by simp (disch := omega) only [hs, e, go_sem, seval])⟩)
    have hok : okP n (nth l k) = true := by simp [okP]; omega
    refine Zi [0, 1, 2, 3, 9, 10, 11, 12, 13] (fun j : Nat => [(14, .p (.bool (tw turned l (nth l k) j))), (15, .p (.int .i64 j))]) (fun _ => [.elems 2 ((U0 n word (smR turned) l k).map eF)]) (fun j => j <= k) (fun j => k - j) 0 (by simp) (Weak.mk ?_) ?_
    ·simp (disch := omega) only [Zer, go_sem, seval]
    ·intro j hj;simp (disch := omega) only [go_sem, seval];refine cD ?_ ?_ <;> intro h4 <;> simp (disch := omega) only [Sh.out h4, go_sem, seval]
     ·have hts := Zes turned l (nth l k) j (by omega);generalize tw turned l (nth l k) j = q at hts ⊢
      repeat' (first | (refine ZI (fun hq => ?_) (fun hq => ?_) <;> (try simp only [decide_eq_true_eq, decide_eq_false_iff_not, Classical.not_not] at hq) <;> simp (disch := omega) only [Sh.out hq, go_sem, seval]) | (refine ZJ (fun hq => ?_) (fun hq => ?_) <;> (try simp only [decide_eq_true_eq, decide_eq_false_iff_not, Classical.not_not] at hq) <;> simp (disch := omega) only [Sh.out hq, go_sem, seval]) | (refine ZV (fun hq => ?_) (fun hq => ?_) <;> (try simp only [decide_eq_true_eq, decide_eq_false_iff_not, Classical.not_not] at hq) <;> simp (disch := omega) only [Sh.out hq, go_sem, seval]))
      all_goals refine ⟨j + 1, by omega, by omega, Weak.mk ?_⟩
      all_goals clear hs hbad hfl hdl
      all_goals simp (disch := omega) only [hts, go_sem, seval]
      all_goals simp [smR, *]
      all_goals first | omega | (simp [smR, *] at hts; exact hts)
     ·have hjk : j = k := by omega
      subst hjk;refine cD ?_ ?_ <;> intro h5 <;> simp (disch := omega) only [Sh.out h5, go_sem, seval]
      ·have e : flt n word (smR turned) l j = [(6, word ++ [32] ++ dec j)] := by
        have h6 : (l.take j).any (smR turned (nth l j)) = true := h5;simp [flt, hok, h6, atW]
       exact ⟨j + 1, by omega, by omega, Weak.mk (by simp (disch := omega) only [hs, e, go_sem, seval])⟩
      ·have e : flt n word (smR turned) l j = [] := by
        have h6 : (l.take j).any (smR turned (nth l j)) = false := h5;simp only [flt, hok, h6, Bool.true_eq_false, Bool.false_eq_true, if_false]
       exact ⟨j + 1, by omega, by omega, Weak.mk (by simp (disch := omega) only [hs, e, go_sem, seval])⟩
   ·have : k = l.length := by omega
    subst this;exact ⟨0, by simp (disch := omega) only [go_sem, seval]⟩
theorem Zcx (n : Int) (ap be : List (Int × Int)) (c c' : Bool) (hl : ap.length <= 1048576) (hl2 : be.length <= 1048576) :
  ACalls Tryd.prog 17 [.p (.int .i64 n), .p (.list c (ap.map eP)), .p (.list c' (be.map eP))] [] fun x H' => x = .sl 0 0 (chk n ap be).length (chk n ap be).length /\ H' = [.elems 2 ((chk n ap be).map eF)] := by
 refine UR (fn := Tryd.f17) (by simp) Tryd.func17 rfl ZnZ ?_;simp (disch := omega) only [Tryd.f17, go_sem, seval];have h1 := Wa n [97, 112, 97, 114, 116] (smR true) ap ap.length;have h2 := Wa n [98, 101, 102, 111, 114, 101] (smR false) be be.length;refine (JP n _ ap c true (by decide) hl).useF ?_;simp (disch := omega) only [go_sem, seval];refine (JP n _ be c' false (by decide) hl2).useF ?_;simp (disch := omega) only [go_sem, seval];refine ⟨0, ?_⟩;rw [chk, <- Zc7, <- Zbo];simp (disch := omega) only [go_sem, seval]
@[go_sem] theorem Zhg {H : List AM.Obj} {β : Type} {S b o n : Nat} {xs : List PV} {g : β -> PV} {m : List β} (hb : (n + m.length) * b <= 140737488355328) (hb2 : n + m.length <= 140737488355328) :
  QL H (some (S, b)) (.elems S xs) o n (some (m.map g)) = if xs.length = n /\ okE S (m.map g) = true then some (.sl o 0 (n + m.length) (n + m.length), ost H o (.elems S (xs ++ m.map g))) else none := by
 rw [Zc3];simp only [List.length_map, hb, hb2, and_true]
def und (word : List UInt8) (f : Flt) : Flt := (f.1, if f.2 = [] then word else word ++ [32] ++ f.2)
theorem We (word : List UInt8) (l : List Flt) (c : Bool) (hword : word.length <= 100) (hl : l.length <= 4194306000000) (hp : ∀ f ∈ l, pF 100 f) :
  ACalls Tryd.prog 12 [.p (.str word), .p (.list c (l.map eF))] [] fun x H' => x = .sl 0 0 (l.map (und word)).length (l.map (und word)).length /\ H' = [.elems 2 ((l.map (und word)).map eF)] := by
 suffices hh : ACalls Tryd.prog 12 [.p (.str word), .p (.list c (l.map eF))] [] fun x H' => ∃ m : List Flt, m = l.map (und word) /\ x = .sl 0 0 m.length m.length /\ H' = [.elems 2 (m.map eF)] by
  refine hh.mono ?_;rintro x H' ⟨m, rfl, h1, h2⟩;exact ⟨h1, h2⟩
 refine ZD [2] Tryd.func12 rfl Zl0 ?_;simp (disch := omega) only [Tryd.f12, go_sem, seval];refine Zr (Weak.ofNil 5 2 (by simp (disch := omega) only [go_sem, seval]) (by simp) (Weak.refl _ _ _)) ?_;refine Za [] _ _ _ _ ?_;simp (disch := omega) only [go_sem, seval];refine Zi [0, 1] (fun q : Nat × List Flt => [(5, .sl 0 0 q.2.length q.2.length), (6, .p (.int .i64 q.1))]) (fun q => [.elems 2 (q.2.map eF)]) (fun q => q.1 <= l.length /\ q.2 = (l.take q.1).map (und word)) (fun q => l.length - q.1) (0, []) ⟨by simp, by simp⟩ (Weak.mk ?_) ?_
 ·simp (disch := omega) only [go_sem, seval]
 ·rintro ⟨k, m⟩ ⟨hk, hm⟩;simp only at hk hm
  have hml : m.length <= k := by rw [hm]; simp; omega
  simp (disch := omega) only [go_sem, seval];refine cD ?_ ?_ <;> intro h <;> simp (disch := omega) only [Sh.out h, go_sem, seval]
  ·have hk2 : k < l.length := by omega
   have hpk := hp _ (YP hk2);unfold pF at hpk
   have hnext : ∀ f, f = und word (nth l k) -> m ++ [f] = (l.take (k + 1)).map (und word) := fun f hf => by
    rw [hf, hm, List.take_succ_eq_append_getElem hk2, List.map_append, Zm hk2]; rfl
   refine cD ?_ ?_ <;> intro h2 <;> simp (disch := omega) only [Sh.out h2, go_sem, seval]
   ·have h3 : ¬ (nth l k).2 = [] := by simpa using h2
    simp (disch := first | omega | (simp only [List.length_cons, List.length_nil, List.length_append, List.length_map, List.length_take, List.length_drop] <;> omega)) only [go_sem, seval];refine ⟨(k + 1, m ++ [((nth l k).1, word ++ [32] ++ (nth l k).2)]), ⟨by simp only; omega, hnext _ (by simp [und, h3])⟩, by simp only; omega, Weak.mk (by simp (disch := first | omega | (simp only [List.length_cons, List.length_nil, List.length_append, List.length_map, List.length_take, List.length_drop] <;> omega)) only [go_sem, seval])⟩
   ·have h3 : (nth l k).2 = [] := by simpa using h2
    refine ⟨(k + 1, m ++ [((nth l k).1, word)]), ⟨by simp only; omega, hnext _ (by simp [und, h3])⟩, by simp only; omega, Weak.mk (by simp (disch := first | omega | (simp only [List.length_cons, List.length_nil, List.length_append, List.length_map, List.length_take, List.length_drop] <;> omega)) only [go_sem, seval])⟩
  ·have hkn : k = l.length := by omega
   subst hkn;exact ⟨m, by rw [hm, List.take_length], 0, by simp (disch := omega) only [go_sem, seval]⟩
theorem Zhs {n : Int} {ap be : List (Int × Int)} (ha : ap.length <= 1048576) (hb : be.length <= 1048576) : ∀ f ∈ chk n ap be, pF 100 f := by
 have key : ∀ (word : List UInt8) (sm : Int × Int -> Int × Int -> Bool) (l : List (Int × Int)), word.length <= 6 -> l.length <= 1048576 -> ∀ f ∈ U0 n word sm l l.length, pF 100 f := fun word sm l hw hl f hf => by
  simp only [U0, List.mem_append, List.mem_flatMap, List.mem_range] at hf;rcases hf with hf | ⟨i, hi, hf⟩
  ·unfold hdr at hf; split at hf <;> simp at hf;subst hf; simp [pF]; omega
  ·have hd := Ww 6 i (by omega)
   have : ∀ e : Int, pF 100 (e, atW word i) := fun e => by simp [pF, atW]; omega
   unfold flt at hf
   split at hf
   ·simp at hf; subst hf; exact this _
   ·split at hf <;> simp at hf
    subst hf; exact this _
 intro f hf;rcases List.mem_append.1 hf with hf | hf
 ·exact key _ _ _ (by simp) ha f hf
 ·exact key _ _ _ (by simp) hb f hf
theorem Zeo {n : Int} {ap be : List (Int × Int)} : (chk n ap be).length <= ap.length + be.length + 2 := by
 have h1 := Wa n [97, 112, 97, 114, 116] (fun p q => decide (p = q \/ (p.1 = q.2 /\ p.2 = q.1))) ap ap.length;have h2 := Wa n [98, 101, 102, 111, 114, 101] (fun p q => decide (p = q)) be be.length;rw [chk, List.length_append]; omega
structure InstOk (x : Inst) : Prop where
 net : netOk x.net
 types : typesOk x.net x.types
 orders : ordersOk x.net.places.length (dimsOf x.types) x.types.length x.orders
 rules : chk x.orders.length x.apart x.before = []
theorem FR.und {p : Flt -> Prop} {C : Prop} {b : Nat} {l : List Flt} (h : FR p C b l) (word : List UInt8) : FR (fun _ => True) C b (l.map (und word)) :=
 ⟨by simpa using h.len, by rw [List.map_eq_nil_iff]; exact h.emp, fun _ _ => trivial⟩
theorem Zjh (x : Inst) (hw : x.wf 1048576) : ACalls Tryd.prog 5 [.p (Xt x)] [] fun y H' => ∃ m : List Flt, FR (fun _ => True) (InstOk x) 4194400000000 m /\ y = .sl 0 0 m.length m.length /\ H' = [.elems 2 (m.map eF)] := by
 obtain ⟨w1, w2, w3, w4, w5, w6, w7, w8, w9⟩ := hw;refine ZD [] Tryd.func5 rfl Zq6 ?_;simp (disch := omega) only [Tryd.f5, go_sem, seval];have ol := X3 x.net.places.length (dimsOf x.types) x.types.length x.orders x.orders.length;have oat := Kt (np := x.net.places.length) (d := dimsOf x.types) (ty := x.types.length) w4;have onil := W5 (np := x.net.places.length) (d := dimsOf x.types) (ty := x.types.length) (l := x.orders);have cl := Zeo (n := x.orders.length) (ap := x.apart) (be := x.before);have cat := Zhs (n := x.orders.length) w6 w8;refine ((ZgT x.net w1).frozenE).useV fun m1 h1 => ?_
 simp (disch := omega) only [go_sem, seval];have h1p := h1.pmono (q := pF 100) fun f hf => hf.mono (by omega);have u1 := We [110, 101, 116] m1 false (by simp) h1.len h1p.all;have f1 := h1.und [110, 101, 116];generalize m1.map (und [110, 101, 116]) = q1 at u1 f1;have f1l := f1.len;refine (u1).useF ?_;simp (disch := omega) only [go_sem, seval];refine ((Zjg x.net x.types x.types_c w1 w2 w3).frozenE).useV fun m2 h2 => ?_;simp (disch := omega) only [go_sem, seval];have h2p := h2.pmono (q := pF 100) fun f hf => hf.mono (by omega);have h2l := h2.len;have u2 := (We [116, 121, 112, 101, 115] m2 false (by simp) (by omega) h2p.all).frozen (by simp)
 have f2 := h2.und [116, 121, 112, 101, 115];generalize m2.map (und [116, 121, 112, 101, 115]) = q2 at u2 f2;have f2l := f2.len;refine (u2).use ?_;simp (disch := omega) only [go_sem, seval];have u3 := (We [111, 114, 100, 101, 114, 115] (ZM x.net.places.length (dimsOf x.types) x.types.length x.orders x.orders.length) false (by simp) (by omega) fun f hf => (oat f hf).mono (by omega)).frozen (by simp);have f3 := (show FR (fun _ => True) (ordersOk x.net.places.length (dimsOf x.types) x.types.length x.orders) (1 + 8 * x.orders.length) (ZM x.net.places.length (dimsOf x.types) x.types.length x.orders x.orders.length) from ⟨ol, onil, fun _ _ => trivial⟩).und [111, 114, 100, 101, 114, 115]
 generalize (ZM x.net.places.length (dimsOf x.types) x.types.length x.orders x.orders.length).map (und [111, 114, 100, 101, 114, 115]) = q3 at u3 f3;have f3l := f3.len;refine ZU 13 mixed (by kernel_rfl) (by kernel_rfl) ?_;simp (disch := omega) only [go_sem, seval];refine Zp (JU x.types x.types_c w2) ?_;simp (disch := omega) only [go_sem, seval];refine Zp ((ZiU x.net (dimsOf x.types) x.types.length x.orders x.orders_c w1 w4 w5).frozen (by simp)) ?_;simp (disch := omega) only [go_sem, seval];refine Zp (u3) ?_;simp (disch := omega) only [go_sem, seval];have u4 := (We [114, 117, 108, 101, 115] (chk x.orders.length x.apart x.before) false (by simp) (by omega) cat).frozen (by simp)
 have f4 := (show FR (fun _ => True) (chk x.orders.length x.apart x.before = []) (x.apart.length + x.before.length + 2) (chk x.orders.length x.apart x.before) from ⟨cl, Iff.rfl, fun _ _ => trivial⟩).und [114, 117, 108, 101, 115];generalize (chk x.orders.length x.apart x.before).map (und [114, 117, 108, 101, 115]) = q4 at u4 f4;have f4l := f4.len;refine ((Zcx x.orders.length x.apart x.before x.apart_c x.before_c w6 w8).frozen (by simp)).use ?_;simp (disch := omega) only [go_sem, seval];refine (u4).use ?_;simp (disch := omega) only [go_sem, seval];refine ⟨q1 ++ q2 ++ q3 ++ q4, ((f1.app f2).app f3 |>.app f4).to (by omega) ⟨fun ⟨⟨⟨a, b⟩, c⟩, d⟩ => ⟨a, b, c, d⟩, fun h => ⟨⟨⟨h.net, h.types⟩, h.orders⟩, h.rules⟩⟩, 1, ?_⟩
 simp (disch := omega) only [go_sem, seval]
def Zq (x : Inst) : AM.Obj := .cells [.p (.list x.net.places_c (x.net.places.map eS)), .p (.list x.net.arcs_c (x.net.arcs.map J0)), .p (.list x.types_c (x.types.map Q2)), .p (.list x.orders_c (x.orders.map Qa)), .p (.list x.apart_c (x.apart.map eP)), .p (.list x.before_c (x.before.map eP))]
def WJ : Sco := ⟨0, 0, 0, 0⟩
theorem Zez (a : Int) : IntKind.i64.wrap ((BitVec.ofInt 64 a &&& BitVec.ofInt 64 1).toNat : Int) = a % 2 := by
 have h : ((BitVec.ofInt 64 a &&& BitVec.ofInt 64 1).toNat : Int) = a % 2 := by
  rw [BitVec.toNat_and]
  have : (BitVec.ofInt 64 1).toNat = 1 := by decide
  rw [this, Nat.and_one_is_mod]
  have : ((BitVec.ofInt 64 a).toNat : Int) = a % 2 ^ 64 := by simp [BitVec.toNat_ofInt]; omega
  omega
 rw [h];exact IntWalk.i64_in _ (by omega)
def sHas (s i : Int) : Bool := decide (0 <= i) && decide (i <= 62) && decide (s.fdiv (2 ^ i.toNat) % 2 = 1)
theorem ZhT (s i : Int) : PC 46 [.p (.int .i64 s), .p (.int .i64 i)] (.bool (sHas s i)) := by
 refine Zb Tryd.func46 rfl Zmo ?_;simp (disch := omega) only [Tryd.f46, go_sem, seval];refine gT ?_ ?_ <;> intro h <;> simp (disch := omega) only [Sh.out h, go_sem, seval]
 ·refine gT ?_ ?_ <;> intro h1 <;> simp (disch := omega) only [Sh.out h1, go_sem, seval]
  ·have : min i.toNat 64 = i.toNat := by omega
   rw [this]
   erw [Zez]
   simp [sHas, h, h1]
  ·simp [sHas, h, h1]
 ·simp [sHas, h]
def hv (s k : Nat) : Nat := s / pw k
theorem Zfi (s : Nat) : hv s 0 = s := by simp [hv, pw]
theorem Zey (s k : Nat) : hv s (k + 1) = hv s k / 2 := by rw [hv, hv, Zbs, Nat.mul_comm, <- Nat.div_div_eq_div_mul]
theorem Zm0 (s k : Nat) : hv s k <= s := Nat.div_le_self _ _
theorem ZdJ (s k : Nat) : s.testBit k = decide (hv s k % 2 = 1) := by
 rw [Nat.testBit_eq_decide_div_mod_eq]
 rfl
theorem Uj (s i : Nat) (hi : i <= 62) : sHas (s : Int) (i : Int) = s.testBit i := by
 rw [ZdJ, hv]
 have h1 : (0 : Int) <= i := by omega
 have h2 : (i : Int) <= 62 := by omega
 simp only [sHas, h1, h2, decide_true, Bool.true_and, Int.toNat_natCast]
 have e : ((s : Int)).fdiv (2 ^ i) = ((s / pw i : Nat) : Int) := by
  have : (2 : Int) ^ i = ((pw i : Nat) : Int) := by simp [pw]
  rw [this, Int.fdiv_eq_ediv_of_nonneg _ (by omega)];simp
 simp only [e];rw [Bool.eq_iff_iff];simp only [decide_eq_true_eq];omega
theorem W1 {p : Nat -> Prop} {k : Nat} (h : ∀ j, j < k -> p j) (hk : p k) : ∀ j, j < k + 1 -> p j := fun j hj => by
 rcases Nat.lt_or_ge j k with h1 | h1
 ·exact h j h1
 ·have : j = k := by omega
  rw [this]; exact hk
deriving instance DecidableEq for Vis
theorem ZhP {v w : Vis} : v = w ↔ v.order = w.order /\ v.drp = w.drp := by cases v; cases w; simp
def ZbY (r : Rte) : AM.Obj := .cells [.p (.int .i64 r.typ), .p (.int .i64 r.start), .p (.list r.rests_c (r.rests.map eB)), .p (.list r.visits_c (r.visits.map ZbK))]
@[go_sem] theorem KO {a b : V} : Yy [a, b] = .tup [a, b] := Eq.trans rfl rfl
theorem Zfz {g : FuncId} {args : List V} {a b : PV} {H : List AM.Obj} {K : V -> List AM.Obj -> Prop} (h : ACalls Tryd.prog g args [] fun x H' => x = .tup [.p a, .p b] /\ H' = []) (k : K (.tup [.p a, .p b]) H) (ha : ZQ 0 args = true := by rfl) : ACalls Tryd.prog g args H K :=
 (h.behind ha H).mono fun x H' hq => by
  obtain ⟨y, H1, ⟨rfl, rfl⟩, rfl, rfl⟩ := hq;simpa [shV, Yd] using k
theorem XR {α : Type} [Inhabited α] {a b : List α} (hl : a.length = b.length) (h : ∀ j, j < a.length -> nth a j = nth b j) : a = b := by
 refine List.ext_getElem hl fun i h1 h2 => ?_;have := h i h1;rwa [Zm h1, Zm h2] at this
def QI (a b : Int) : Int := if a < b then -1 else if b < a then 1 else 0
theorem ZaF (a : Int) : PC 51 [.p (.int .i64 a)] (.bool false) := by
 refine Zb Tryd.func51 rfl ZnW ?_;simp (disch := omega) only [Tryd.f51, go_sem, seval]
 try simp
theorem Zcp (a b : Int) : PC 27 [.p (.int .i64 a), .p (.int .i64 b)] (.int .i64 (QI a b)) := by
 refine Zb Tryd.func27 rfl ZmT ?_;simp (disch := omega) only [Tryd.f27, go_sem, seval];refine (ZaF a).use ?_;simp (disch := omega) only [go_sem, seval];refine (ZaF b).use ?_;simp (disch := omega) only [go_sem, seval];refine cD ?_ ?_ <;> intro h <;> simp (disch := omega) only [Sh.out h, go_sem, seval]
 ·simp [QI, h]
 ·refine cD ?_ ?_ <;> intro h2 <;> simp (disch := omega) only [Sh.out h2, go_sem, seval]
  ·simp [QI, h, h2]
  ·simp [QI, h, h2]
def orI (l : List Int) : Int := (l.find? fun n => decide (n ≠ 0)).getD 0
theorem ZgM {l : List Int} {k : Nat} (hk : k < l.length) (h : nth l k ≠ 0) (hno : ∀ j, j < k -> nth l j = 0) : orI l = nth l k := by
 have : l.find? (fun n => decide (n ≠ 0)) = some (nth l k) := by
  rw [List.find?_eq_some_iff_getElem];refine ⟨by simpa using h, k, hk, (Zm hk).symm, fun j hj => ?_⟩;have := hno j hj;rw [Zm (by omega)] at this;simp [this]
 simp only [orI, this, Option.getD_some]
theorem Zgy {l : List Int} (hno : ∀ j, j < l.length -> nth l j = 0) : orI l = 0 := by
 have : l.find? (fun n => decide (n ≠ 0)) = none := by
  rw [List.find?_eq_none];intro x hx;obtain ⟨j, hj, rfl⟩ := List.mem_iff_getElem.1 hx;rw [<- Zm hj, hno j hj]; simp
 simp only [orI, this, Option.getD_none]
theorem Zp0 (l : List Int) (c : Bool) (hl : l.length <= 100) : PC 26 [.p (.list c (l.map eI))] (.int .i64 (orI l)) := by
 refine Zb Tryd.func26 rfl ZmB ?_;simp (disch := omega) only [Tryd.f26, go_sem, seval];refine Zi [3, 6, 7] (fun k : Nat => [(8, .p (.int .i64 k))]) (fun _ => []) (fun k => k <= l.length /\ ∀ j, j < k -> nth l j = 0) (fun k => l.length - k) 0 (by simp) (Weak.mk ?_) ?_
 ·simp (disch := omega) only [go_sem, seval]
 ·rintro k ⟨hk, hno⟩;simp (disch := omega) only [go_sem, seval];refine cD ?_ ?_ <;> intro h <;> simp (disch := omega) only [Sh.out h, go_sem, seval]
  ·have hk2 : k < l.length := by omega
   refine cD ?_ ?_ <;> intro h2 <;> simp (disch := omega) only [Sh.out h2, go_sem, seval]
   ·rw [ZgM hk2 h2 hno]
   ·exact ⟨k + 1, ⟨by omega, Zu.2 ⟨hno, by simpa using h2⟩⟩, by omega, wk⟩
  ·have hkl : k = l.length := by omega
   subst hkl;rw [Zgy hno]
theorem ZaS (a b : Int) : orI [a, b] = if a = 0 then b else a := by
 by_cases h : a = 0
 ·by_cases h2 : b = 0 <;> simp [orI, h, h2]
 ·simp [orI, h]
def dn (v : Vis) : Int := if v.drp = true then 1 else 0
def Zb0 (p : Pln) : AM.Obj := .cells [.p (.list p.routes_c (p.routes.map ZbX)), .p (.list p.unserved_c (p.unserved.map eI))]
def Zd1 (r : Rte) : Prop := r.visits.length <= 1048576 /\ r.rests.length <= 1048576
theorem ZS {α : Type} [Inhabited α] {l : List α} {i : Nat} (h : i < l.length) : nth l i ∈ l := by rw [Zm h]; exact List.getElem_mem h
theorem Vn {β : Type} [Inhabited β] {a b : List β} (hl : a.length = b.length) (h : ∀ j, j < a.length -> nth a j = nth b j) : a = b := by
 apply List.ext_getElem hl;intro i h1 h2;have := h i h1;rwa [Zm h1, Zm h2] at this
def VM (a b : Rte) : Bool := decide (a.typ = b.typ) && (decide (a.start = b.start) && (decide (a.rests = b.rests) && decide (a.visits = b.visits)))
def US (p q : Pln) : Bool := (decide (p.routes.length = q.routes.length) && (List.range p.routes.length).all fun k => VM (nth p.routes k) (nth q.routes k)) && decide (p.unserved = q.unserved)
theorem W6 {a b : Rte} : VM a b = true ↔ a.typ = b.typ /\ a.start = b.start /\ a.rests = b.rests /\ a.visits = b.visits := by
 simp [VM]
theorem UD (a b : Rte) (ha : Zd1 a) (hb : Zd1 b) : PC 53 [.p (ZbX a), .p (ZbX b)] (.bool (VM a b)) := by
 obtain ⟨a1, a2⟩ := ha;obtain ⟨b1, b2⟩ := hb
 have no : (a.typ = b.typ /\ a.start = b.start /\ a.rests = b.rests /\ a.visits = b.visits -> False) -> VM a b = false := fun h => by
  cases hs : VM a b with
  | false => rfl
  | true => exact (h (W6.1 hs)).elim
 refine Zb Tryd.func53 rfl ZmL ?_;simp (disch := omega) only [Tryd.f53, go_sem, seval];refine gF ?_ ?_ <;> intro h1 <;> simp (disch := omega) only [Sh.out h1, go_sem, seval]
 ·rw [no fun h => h1 h.1]
 ·refine gF ?_ ?_ <;> intro h2 <;> simp (disch := omega) only [Sh.out h2, go_sem, seval]
  ·rw [no fun h => h2 h.2.1]
  ·refine gF ?_ ?_ <;> intro h3 <;> simp (disch := omega) only [Sh.out h3, go_sem, seval]
   ·rw [no fun h => h3 (by rw [h.2.2.1])]
   ·refine cD ?_ ?_ <;> intro h4 <;> simp (disch := omega) only [Sh.out h4, go_sem, seval]
    ·rw [no fun h => h4 (by rw [h.2.2.2])]
    ·have l1 : a.rests.length = b.rests.length := by omega
     have l2 : a.visits.length = b.visits.length := by omega
     refine Zi [2, 3] (fun k : Nat => [(5, .p (.int .i64 k))]) (fun _ => [ZbY a, ZbY b]) (fun k => k <= a.rests.length /\ ∀ j, j < k -> nth a.rests j = nth b.rests j) (fun k => a.rests.length - k) 0 (by simp) (Weak.mk ?_) ?_
     ·simp (disch := omega) only [ZbY, go_sem, seval]
     ·rintro k ⟨hk, hno⟩;simp (disch := omega) only [ZbY, go_sem, seval];refine cD ?_ ?_ <;> intro h5 <;> simp (disch := omega) only [Sh.out h5, go_sem, seval]
      ·have hk2 : k < a.rests.length := by omega
       refine Zf mixed (by kernel_rfl) (by kernel_rfl) ?_;simp (disch := omega) only [go_sem, seval];refine cD ?_ ?_ <;> intro h6 <;> simp (disch := omega) only [Sh.out h6, go_sem, seval]
       ·rw [no fun h => by rw [h.2.2.1] at h6; simp at h6]
       ·exact ⟨k + 1, ⟨by omega, Zu.2 ⟨hno, by simpa using h6⟩⟩, by omega, Weak.mk (by simp (disch := omega) only [ZbY, go_sem, seval])⟩
      ·have e1 : a.rests = b.rests := Vn l1 fun j hj => hno j (by omega);refine Zi [2, 3] (fun k : Nat => [(6, .p (.int .i64 k))]) (fun _ => [ZbY a, ZbY b]) (fun k => k <= a.visits.length /\ ∀ j, j < k -> nth a.visits j = nth b.visits j) (fun k => a.visits.length - k) 0 (by simp) (Weak.mk ?_) ?_
       ·simp (disch := omega) only [ZbY, go_sem, seval]
       ·rintro k ⟨hk, hno2⟩;simp (disch := omega) only [ZbY, go_sem, seval];refine cD ?_ ?_ <;> intro h7 <;> simp (disch := omega) only [Sh.out h7, go_sem, seval]
        ·have hk2 : k < a.visits.length := by omega
         refine Zf mixed (by kernel_rfl) (by kernel_rfl) ?_;simp (disch := omega) only [go_sem, seval];refine cD ?_ ?_ <;> intro h8 <;> simp (disch := omega) only [Sh.out h8, go_sem, seval]
         ·rw [no fun h => by rw [h.2.2.2] at h8; simp at h8]
         ·exact ⟨k + 1, ⟨by omega, Zu.2 ⟨hno2, ZhP.2 (by simpa using h8)⟩⟩, by omega, Weak.mk (by simp (disch := omega) only [ZbY, go_sem, seval])⟩
        ·rw [W6.2 ⟨by omega, by omega, e1, Vn l2 fun j hj => hno2 j (by omega)⟩]
theorem WV {p q : Pln} (h : (p.routes.length = q.routes.length /\ (∀ k, k < p.routes.length -> VM (nth p.routes k) (nth q.routes k) = true) /\ p.unserved = q.unserved) -> False) : US p q = false := by
 cases hs : US p q with
 | false => rfl
 | true =>
  simp only [US, Bool.and_eq_true, decide_eq_true_eq, List.all_eq_true, List.mem_range] at hs;exact (h ⟨hs.1.1, hs.1.2, hs.2⟩).elim
theorem Qx {p q : Pln} (h1 : p.routes.length = q.routes.length) (h2 : ∀ k, k < p.routes.length -> VM (nth p.routes k) (nth q.routes k) = true) (h3 : p.unserved = q.unserved) : US p q = true := by
 simp only [US, Bool.and_eq_true, decide_eq_true_eq, List.all_eq_true, List.mem_range];exact ⟨⟨h1, h2⟩, h3⟩
theorem Zdo (p q : Pln) (hp : p.routes.length <= 1048576 /\ p.unserved.length <= 1048576 /\ ∀ r ∈ p.routes, Zd1 r) (hq : q.routes.length <= 1048576 /\ q.unserved.length <= 1048576 /\ ∀ r ∈ q.routes, Zd1 r) :
  PC 30 [.p (Qz p), .p (Qz q)] (.bool (US p q)) := by
 have p1 := hp.1;have p2 := hp.2.1;refine Zb Tryd.func30 rfl Zn6 ?_;simp (disch := omega) only [Tryd.f30, go_sem, seval];refine gF ?_ ?_ <;> intro h1 <;> simp (disch := omega) only [Sh.out h1, go_sem, seval]
 ·rw [WV fun h => h1 (by rw [h.1])]
 ·refine cD ?_ ?_ <;> intro h2 <;> simp (disch := omega) only [Sh.out h2, go_sem, seval]
  ·rw [WV fun h => h2 (by rw [h.2.2])]
  ·have l1 : p.routes.length = q.routes.length := by omega
   have l2 : p.unserved.length = q.unserved.length := by omega
   refine Zi [2, 3] (fun k : Nat => [(5, .p (.int .i64 k))]) (fun _ => [Zb0 p, Zb0 q]) (fun k => k <= p.routes.length /\ ∀ j, j < k -> VM (nth p.routes j) (nth q.routes j) = true) (fun k => p.routes.length - k) 0 (by simp) (Weak.mk ?_) ?_
   ·simp (disch := omega) only [Zb0, go_sem, seval]
   ·rintro k ⟨hk, hno⟩;simp (disch := omega) only [Zb0, go_sem, seval];refine cD ?_ ?_ <;> intro h5 <;> simp (disch := omega) only [Sh.out h5, go_sem, seval]
    ·have hk2 : k < p.routes.length := by omega
     refine Zf mixed (by kernel_rfl) (by kernel_rfl) ?_;simp (disch := omega) only [go_sem, seval];refine Zp (UD (nth p.routes k) (nth q.routes k) (hp.2.2 _ (ZS hk2)) (hq.2.2 _ (ZS (by omega)))) ?_;simp (disch := omega) only [go_sem, seval]
     cases hs : VM (nth p.routes k) (nth q.routes k) with
     | false =>
      rw [WV fun h => by have := h.2.1 k hk2; rw [hs] at this; cases this];simp (disch := omega) only [hs, Bool.not_false, go_sem, seval]
     | true =>
      simp (disch := omega) only [hs, Bool.not_true, Bool.false_eq_true, go_sem, seval];exact ⟨k + 1, ⟨by omega, Zu.2 ⟨hno, hs⟩⟩, by omega, Weak.mk (by simp (disch := omega) only [Zb0, go_sem, seval])⟩
    ·refine Zi [2, 3] (fun k : Nat => [(6, .p (.int .i64 k))]) (fun _ => [Zb0 p, Zb0 q]) (fun k => k <= p.unserved.length /\ ∀ j, j < k -> nth p.unserved j = nth q.unserved j) (fun k => p.unserved.length - k) 0 (by simp) (Weak.mk ?_) ?_
     ·simp (disch := omega) only [Zb0, go_sem, seval]
     ·rintro i ⟨hi, hno2⟩;simp (disch := omega) only [Zb0, go_sem, seval];refine cD ?_ ?_ <;> intro h7 <;> simp (disch := omega) only [Sh.out h7, go_sem, seval]
      ·have hk2 : i < p.unserved.length := by omega
       refine Zf mixed (by kernel_rfl) (by kernel_rfl) ?_;simp (disch := omega) only [go_sem, seval];refine cD ?_ ?_ <;> intro h8 <;> simp (disch := omega) only [Sh.out h8, go_sem, seval]
       ·rw [WV fun h => h8 (by rw [h.2.2])]
       ·exact ⟨i + 1, ⟨by omega, Zu.2 ⟨hno2, by omega⟩⟩, by omega, Weak.mk (by simp (disch := omega) only [Zb0, go_sem, seval])⟩
      ·rw [Qx l1 (fun j hj => hno j (by omega)) (Vn l2 fun j hj => hno2 j (by omega))]
theorem Y5 {P : Program} {e : TypeId} {k : Nat} {cs : List PV} {kk : IntKind} {n : Int} {x : PV} (h0 : 0 <= n) (h1 : n < k) (hx : apart P e cs n.toNat = some x) (ht : tsz P e = some 1) : ZbS P (some (.array k e)) (.p (.agg cs)) (.p (.int kk n)) = some (.p x) := by
 simp only [ZbS, if_pos (show 0 <= n /\ n < (k : Int) from ⟨h0, h1⟩), ht, Nat.mul_one, hx]; rfl
def Zou (s : Sco) : PV := .agg [.int .i64 s.cost, .int .i64 s.moved, .int .i64 s.other, .int .i64 s.work]
@[go_sem] theorem Zmu (s : Sco) : Zou s = .agg [.int .i64 s.cost, .int .i64 s.moved, .int .i64 s.other, .int .i64 s.work] := Eq.trans rfl rfl
theorem ZcI (s : Sco) : PC 67 [.p (ZdQ s)] (Zou s) := by
 refine Ze [] Tryd.func67 rfl Zn2 ?_;simp (disch := omega) only [Tryd.f67, go_sem, seval];exact we
def scoR (B : Int) (s : Sco) : Prop := (-B <= s.cost /\ s.cost <= B) /\ (-B <= s.moved /\ s.moved <= B) /\ (-B <= s.other /\ s.other <= B) /\ (-B <= s.work /\ s.work <= B)
def ZdT (s : Sco) : AM.Obj := .cells [.p (.int .i64 s.cost), .p (.int .i64 s.moved), .p (.int .i64 s.other), .p (.int .i64 s.work)]
def YT (s : Sco) : Int × Int := if s.cost < 0 \/ s.moved < 0 \/ s.other < 0 \/ s.work < 0 then (0, 2) else if 1073741824 < s.cost \/ 16 <= s.moved \/ 16 <= s.other \/ 65536 <= s.work then (0, 4) else (((s.cost * 16 + s.moved) * 16 + s.other) * 65536 + s.work, 0)
theorem ZbQ (s : Sco) (hs : scoR 1152921504606846976 s) : PT 42 [.p (ZdQ s)] [.p (.int .i64 (YT s).1), .p (.int .i64 (YT s).2)] := by
 obtain ⟨a1, a2, a3, a4⟩ := hs;refine Ze [] Tryd.func42 rfl Zl5 ?_;simp (disch := omega) only [Tryd.f42, go_sem, seval];refine (ZcI s).use ?_;simp (disch := omega) only [go_sem, seval];refine Zi [1, 9] (fun k : Nat => [(10, .p (.int .i64 k))]) (fun _ => [ZdT s, ZdT s]) (fun k => k <= 4 /\ (0 < k -> 0 <= s.cost) /\ (1 < k -> 0 <= s.moved) /\ (2 < k -> 0 <= s.other) /\ (3 < k -> 0 <= s.work)) (fun k => 4 - k) 0 ⟨by omega, by omega, by omega, by omega, by omega⟩ (Weak.mk ?_) ?_
 ·simp (disch := omega) only [ZdT, go_sem, seval]
 ·rintro k ⟨hk, k1, k2, k3, k4⟩;simp (disch := omega) only [ZdT, go_sem, seval];refine cD ?_ ?_ <;> intro h1 <;> simp (disch := omega) only [Sh.out h1, go_sem, seval]
  ·have : k = 0 \/ k = 1 \/ k = 2 \/ k = 3 := by omega
   rcases this with rfl | rfl | rfl | rfl
   ·rw [Y5 (x := .int .i64 s.cost) (by omega) (by omega) (by rfl) (by kernel_rfl)];simp (disch := omega) only [go_sem, seval];refine cD ?_ ?_ <;> intro h2 <;> simp (disch := omega) only [Sh.out h2, go_sem, seval]
    ·have e : YT s = (0, 2) := by rw [YT, if_pos (by omega)]
     rw [e];exact we
    ·exact ⟨1, ⟨by omega, fun _ => by omega, by omega, by omega, by omega⟩, by omega, Weak.mk (by simp (disch := omega) only [ZdT, go_sem, seval])⟩
   ·rw [Y5 (x := .int .i64 s.moved) (by omega) (by omega) (by rfl) (by kernel_rfl)];simp (disch := omega) only [go_sem, seval];refine cD ?_ ?_ <;> intro h2 <;> simp (disch := omega) only [Sh.out h2, go_sem, seval]
    ·have e : YT s = (0, 2) := by rw [YT, if_pos (by omega)]
     rw [e];exact we
    ·exact ⟨2, ⟨by omega, fun _ => k1 (by omega), fun _ => by omega, by omega, by omega⟩, by omega, Weak.mk (by simp (disch := omega) only [ZdT, go_sem, seval])⟩
   ·rw [Y5 (x := .int .i64 s.other) (by omega) (by omega) (by rfl) (by kernel_rfl)];simp (disch := omega) only [go_sem, seval];refine cD ?_ ?_ <;> intro h2 <;> simp (disch := omega) only [Sh.out h2, go_sem, seval]
    ·have e : YT s = (0, 2) := by rw [YT, if_pos (by omega)]
     rw [e];exact we
    ·exact ⟨3, ⟨by omega, fun _ => k1 (by omega), fun _ => k2 (by omega), fun _ => by omega, by omega⟩, by omega, Weak.mk (by simp (disch := omega) only [ZdT, go_sem, seval])⟩
   ·rw [Y5 (x := .int .i64 s.work) (by omega) (by omega) (by rfl) (by kernel_rfl)];simp (disch := omega) only [go_sem, seval];refine cD ?_ ?_ <;> intro h2 <;> simp (disch := omega) only [Sh.out h2, go_sem, seval]
    ·have e : YT s = (0, 2) := by rw [YT, if_pos (by omega)]
     rw [e];exact we
    ·exact ⟨4, ⟨by omega, fun _ => k1 (by omega), fun _ => k2 (by omega), fun _ => k3 (by omega), fun _ => by omega⟩, by omega, Weak.mk (by simp (disch := omega) only [ZdT, go_sem, seval])⟩
  ·have hk4 : k = 4 := by omega
   subst hk4;have g1 := k1 (by omega);have g2 := k2 (by omega);have g3 := k3 (by omega);have g4 := k4 (by omega)
   have n1 : ¬ (s.cost < 0 \/ s.moved < 0 \/ s.other < 0 \/ s.work < 0) := by omega
   have bad : (1073741824 < s.cost \/ 16 <= s.moved \/ 16 <= s.other \/ 65536 <= s.work) -> YT s = (0, 4) := fun h => by rw [YT, if_neg n1, if_pos h]
   refine gF ?_ ?_ <;> intro h2 <;> simp (disch := omega) only [Sh.out h2, go_sem, seval]
   ·rw [bad (by omega)];exact we
   ·refine gF ?_ ?_ <;> intro h3 <;> simp (disch := omega) only [Sh.out h3, go_sem, seval]
    ·rw [bad (by omega)];exact we
    ·refine gF ?_ ?_ <;> intro h4 <;> simp (disch := omega) only [Sh.out h4, go_sem, seval]
     ·rw [bad (by omega)];exact we
     ·refine cD ?_ ?_ <;> intro h5 <;> simp (disch := omega) only [Sh.out h5, go_sem, seval]
      ·rw [bad (by omega)];exact we
      ·have e : YT s = (((s.cost * 16 + s.moved) * 16 + s.other) * 65536 + s.work, 0) := by rw [YT, if_neg n1, if_neg (by omega)]
       rw [e];exact we
def unsF (x : Inst) (i : Int) : Sco × Int :=
 if i < 0 \/ (x.orders.length : Int) <= i then (WJ, 2)
 else if (nth x.orders i.toNat).off = true then (WJ, 9)
 else if (nth x.orders i.toNat).penalty = -1 then (WJ, 23)
 else (⟨(nth x.orders i.toNat).penalty, if (nth x.orders i.toNat).now = -1 then 0 else 1, 0, 0⟩, 0)
theorem Q6 (x : Inst) (i : Int) (ho : x.orders.length <= 1048576) : PT 41 [.p (Xt x), .p (.int .i64 i)] [.p (ZdQ (unsF x i).1), .p (.int .i64 (unsF x i).2)] := by
 refine Ze [] Tryd.func41 rfl Zmn ?_;simp (disch := omega) only [Tryd.f41, go_sem, seval];refine gF ?_ ?_ <;> intro h1 <;> simp (disch := omega) only [Sh.out h1, go_sem, seval]
 ·have e : unsF x i = (WJ, 2) := by rw [unsF, if_pos (by omega)]
  rw [e];exact we (by simp (disch := omega) only [WJ, go_sem, seval])
 ·refine cD ?_ ?_ <;> intro h2 <;> simp (disch := omega) only [Sh.out h2, go_sem, seval]
  ·have e : unsF x i = (WJ, 2) := by rw [unsF, if_pos (by omega)]
   rw [e];exact we (by simp (disch := omega) only [WJ, go_sem, seval])
  ·have hi : i.toNat < x.orders.length := by omega
   have n1 : ¬ (i < 0 \/ (x.orders.length : Int) <= i) := by omega
   refine cD ?_ ?_ <;> intro h3 <;> simp (disch := omega) only [Sh.out h3, go_sem, seval]
   ·have e : unsF x i = (WJ, 9) := by rw [unsF, if_neg n1, if_pos h3]
    rw [e];exact we (by simp (disch := omega) only [WJ, go_sem, seval])
   ·have h3' : ¬ (nth x.orders i.toNat).off = true := by rw [h3]; simp
    refine cD ?_ ?_ <;> intro h4 <;> simp (disch := omega) only [Sh.out h4, go_sem, seval]
    ·have e : unsF x i = (WJ, 23) := by rw [unsF, if_neg n1, if_neg h3', if_pos h4]
     rw [e];exact we (by simp (disch := omega) only [WJ, go_sem, seval])
    ·refine cD ?_ ?_ <;> intro h5 <;> simp (disch := omega) only [Sh.out h5, go_sem, seval]
     ·have e : unsF x i = (⟨(nth x.orders i.toNat).penalty, 1, 0, 0⟩, 0) := by rw [unsF, if_neg n1, if_neg h3', if_neg h4, if_neg h5]
      rw [e];exact we
     ·have h5' : (nth x.orders i.toNat).now = -1 := by omega
      have e : unsF x i = (⟨(nth x.orders i.toNat).penalty, 0, 0, 0⟩, 0) := by rw [unsF, if_neg n1, if_neg h3', if_neg h4, if_pos h5']
      rw [e];exact we
theorem QG (x : Inst) (i : Int) (ho : x.orders.length <= 1048576) : PT 72 [.p (Xt x), .p (.int .i64 i)] [.p (ZdQ (unsF x i).1), .p (.int .i64 (unsF x i).2)] := by
 refine Ze [] Tryd.func72 rfl Zop ?_;simp (disch := omega) only [Tryd.f72, go_sem, seval];refine gF ?_ ?_ <;> intro h1 <;> simp (disch := omega) only [Sh.out h1, go_sem, seval]
 ·have e : unsF x i = (WJ, 2) := by rw [unsF, if_pos (by omega)]
  rw [e];exact we (by simp (disch := omega) only [WJ, go_sem, seval])
 ·refine cD ?_ ?_ <;> intro h2 <;> simp (disch := omega) only [Sh.out h2, go_sem, seval]
  ·have e : unsF x i = (WJ, 2) := by rw [unsF, if_pos (by omega)]
   rw [e];exact we (by simp (disch := omega) only [WJ, go_sem, seval])
  ·have hi : i.toNat < x.orders.length := by omega
   have n1 : ¬ (i < 0 \/ (x.orders.length : Int) <= i) := by omega
   refine cD ?_ ?_ <;> intro h3 <;> simp (disch := omega) only [Sh.out h3, go_sem, seval]
   ·have e : unsF x i = (WJ, 9) := by rw [unsF, if_neg n1, if_pos h3]
    rw [e];exact we (by simp (disch := omega) only [WJ, go_sem, seval])
   ·have h3' : ¬ (nth x.orders i.toNat).off = true := by rw [h3]; simp
    refine cD ?_ ?_ <;> intro h4 <;> simp (disch := omega) only [Sh.out h4, go_sem, seval]
    ·have e : unsF x i = (WJ, 23) := by rw [unsF, if_neg n1, if_neg h3', if_pos h4]
     rw [e];exact we (by simp (disch := omega) only [WJ, go_sem, seval])
    ·refine cD ?_ ?_ <;> intro h5 <;> simp (disch := omega) only [Sh.out h5, go_sem, seval]
     ·have e : unsF x i = (⟨(nth x.orders i.toNat).penalty, 1, 0, 0⟩, 0) := by rw [unsF, if_neg n1, if_neg h3', if_neg h4, if_neg h5]
      rw [e];exact we
     ·have h5' : (nth x.orders i.toNat).now = -1 := by omega
      have e : unsF x i = (⟨(nth x.orders i.toNat).penalty, 0, 0, 0⟩, 0) := by rw [unsF, if_neg n1, if_neg h3', if_neg h4, if_pos h5']
      rw [e];exact we
def XY (s : Sco) : Bool := decide (0 <= s.cost) && decide (s.cost <= 1073741824) && decide (0 <= s.moved) && decide (s.moved <= 15) && decide (0 <= s.other) && decide (s.other <= 15) && decide (0 <= s.work) && decide (s.work <= 65535)
theorem Zbh (s : Sco) : PC 88 [.p (ZdQ s)] (.bool (XY s)) := by
 refine Zb Tryd.func88 rfl Zmq ?_;simp (disch := omega) only [Tryd.f88, go_sem, seval];refine gT ?_ ?_ <;> intro h1 <;> simp (disch := omega) only [Sh.out h1, go_sem, seval]
 ·refine gT ?_ ?_ <;> intro h2 <;> simp (disch := omega) only [Sh.out h2, go_sem, seval]
  ·refine gT ?_ ?_ <;> intro h3 <;> simp (disch := omega) only [Sh.out h3, go_sem, seval]
   ·refine gT ?_ ?_ <;> intro h4 <;> simp (disch := omega) only [Sh.out h4, go_sem, seval]
    ·refine gT ?_ ?_ <;> intro h5 <;> simp (disch := omega) only [Sh.out h5, go_sem, seval]
     ·refine gT ?_ ?_ <;> intro h6 <;> simp (disch := omega) only [Sh.out h6, go_sem, seval]
      ·refine gT ?_ ?_ <;> intro h7 <;> simp (disch := omega) only [Sh.out h7, go_sem, seval]
       ·simp [XY, h1, h2, h3, h4, h5, h6, h7]
       ·simp [XY, h1, h2, h3, h4, h5, h6, h7]
      ·simp [XY, h1, h2, h3, h4, h5, h6]
     ·simp [XY, h1, h2, h3, h4, h5]
    ·simp [XY, h1, h2, h3, h4]
   ·simp [XY, h1, h2, h3]
  ·simp [XY, h1, h2]
 ·simp [XY, h1]
theorem KS (s : Sco) (hs : scoR 1152921504606846976 s) : PT 73 [.p (ZdQ s)] [.p (.int .i64 (YT s).1), .p (.int .i64 (YT s).2)] := by
 obtain ⟨a1, a2, a3, a4⟩ := hs
 have bad : (s.cost < 0 \/ s.moved < 0 \/ s.other < 0 \/ s.work < 0) -> YT s = (0, 2) := fun h => by rw [YT, if_pos h]
 refine Ze [] Tryd.func73 rfl Zol ?_;simp (disch := omega) only [Tryd.f73, go_sem, seval];refine gF ?_ ?_ <;> intro h1 <;> simp (disch := omega) only [Sh.out h1, go_sem, seval]
 ·rw [bad (by omega)];exact we
 ·refine gF ?_ ?_ <;> intro h2 <;> simp (disch := omega) only [Sh.out h2, go_sem, seval]
  ·rw [bad (by omega)];exact we
  ·refine gF ?_ ?_ <;> intro h3 <;> simp (disch := omega) only [Sh.out h3, go_sem, seval]
   ·rw [bad (by omega)];exact we
   ·refine cD ?_ ?_ <;> intro h4 <;> simp (disch := omega) only [Sh.out h4, go_sem, seval]
    ·rw [bad (by omega)];exact we
    ·have n1 : ¬ (s.cost < 0 \/ s.moved < 0 \/ s.other < 0 \/ s.work < 0) := by omega
     refine (Zbh s).use ?_;simp (disch := omega) only [go_sem, seval];refine cD ?_ ?_ <;> intro h5 <;> simp (disch := omega) only [Sh.out h5, go_sem, seval]
     ·have e : YT s = (0, 4) := by
       have h6 : ¬ XY s = true := by simpa using h5
       rw [YT, if_neg n1, if_pos];refine Classical.byContradiction fun h7 => h6 ?_;simp [XY]; omega
      rw [e];exact we
     ·have h6 : XY s = true := by simpa using h5
      simp [XY] at h6
      have e : YT s = (((s.cost * 16 + s.moved) * 16 + s.other) * 65536 + s.work, 0) := by rw [YT, if_neg n1, if_neg (by omega)]
      rw [e];simp (disch := omega) only [go_sem, seval];exact we
theorem Ud {x : Inst} (hx : InstOk x) (i : Int) : scoR 1073741824 (unsF x i).1 := by
 unfold unsF
 split
 ·simp [scoR, WJ]
 ·split
  ·simp [scoR, WJ]
  ·split
   ·simp [scoR, WJ]
   ·have ha := (hx.orders.2 i.toNat (by omega)).arg;simp only [argOk, rng, Bool.and_eq_true, decide_eq_true_eq] at ha;simp only [scoR]
    split <;> omega
theorem Vv {a : Sco} {B C : Int} (h : B <= C) (ha : scoR B a) : scoR C a := by
 simp only [scoR] at *
 omega
set_option maxRecDepth 60000
structure St where
 ix : Int
 cov : Int
 used : List Int
 deriving Inhabited, DecidableEq
def eSt (s : St) : PV := .agg (.int .i64 s.ix :: .int .i64 s.cov :: s.used.map eI)
@[go_sem] theorem ZoN (s : St) : eSt s = .agg (.int .i64 s.ix :: .int .i64 s.cov :: s.used.map eI) := Eq.trans rfl rfl
def StR (s : St) : Prop := s.used.length = 6
theorem six {l : List Int} (h : l.length = 6) : ∃ a b c d e f, l = [a, b, c, d, e, f] := by
 match l, h with
 | [a, b, c, d, e, f], _ => exact ⟨a, b, c, d, e, f, rfl⟩
theorem ZW {s : St} (h : StR s) : ∃ i v a b c d e f, s = ⟨i, v, [a, b, c, d, e, f]⟩ := by
 obtain ⟨i, v, u⟩ := s;obtain ⟨a, b, c, d, e, f, rfl⟩ := six h;exact ⟨i, v, a, b, c, d, e, f, rfl⟩
theorem Zaw : KeyE Tryd.prog 95 eSt StR := by
 refine ⟨⟨67, 3, by kernel_rfl, by kernel_rfl, fun s hs => ?_, fun s t hs ht => ?_⟩, fun s t hs ht => ?_⟩
 ·obtain ⟨i, v, a, b, c, d, e, f, rfl⟩ := ZW hs
  kernel_rfl
 ·obtain ⟨i, v, a, b, c, d, e, f, rfl⟩ := ZW hs;obtain ⟨i', v', a', b', c', d', e', f', rfl⟩ := ZW ht
  have h1 : VJ Tryd.prog 9 67 (eSt ⟨i, v, [a, b, c, d, e, f]⟩) (eSt ⟨i', v', [a', b', c', d', e', f']⟩) = some (decide (i = i') && (decide (v = v') && ((decide (a = a') && (decide (b = b') && (decide (c = c') && (decide (d = d') && (decide (e = e') && (decide (f = f') && true)))))) && true))) := by kernel_rfl
  have h2 : keq (eSt ⟨i, v, [a, b, c, d, e, f]⟩) (eSt ⟨i', v', [a', b', c', d', e', f']⟩) = (decide (i = i') && (decide (v = v') && ((decide (a = a') && (decide (b = b') && (decide (c = c') && (decide (d = d') && (decide (e = e') && (decide (f = f') && true)))))) && true))) := by
   simp [keq, eSt, Wo, eI, <- Bool.decide_and]
  show (VJ Tryd.prog 9 67 (eSt ⟨i, v, [a, b, c, d, e, f]⟩) (eSt ⟨i', v', [a', b', c', d', e', f']⟩) == some (keq (eSt ⟨i, v, [a, b, c, d, e, f]⟩) (eSt ⟨i', v', [a', b', c', d', e', f']⟩))) = true
  rw [h1, h2]; simp
 ·obtain ⟨i, v, a, b, c, d, e, f, rfl⟩ := ZW hs;obtain ⟨i', v', a', b', c', d', e', f', rfl⟩ := ZW ht;simp [keq, eSt, Wo, eI, <- Bool.decide_and]
structure Kd where
 typ : Int
 set : Int
 deriving Inhabited, DecidableEq
def eKd (k : Kd) : PV := .agg [.int .i64 k.typ, .int .i64 k.set]
theorem Zeg : KeyE Tryd.prog 136 eKd fun _ => True := by
 refine ⟨⟨138, 3, by kernel_rfl, by kernel_rfl, fun s _ => ?_, fun s t _ _ => ?_⟩, fun s t _ _ => ?_⟩
 ·kernel_rfl
 ·obtain ⟨a, b⟩ := s;obtain ⟨c, d⟩ := t
  have h1 : VJ Tryd.prog 9 138 (eKd ⟨a, b⟩) (eKd ⟨c, d⟩) = some (decide (a = c) && (decide (b = d) && true)) := by kernel_rfl
  have h2 : keq (eKd ⟨a, b⟩) (eKd ⟨c, d⟩) = (decide (a = c) && (decide (b = d) && true)) := by
   simp [keq, eKd, Wo, <- Bool.decide_and]
  show (VJ Tryd.prog 9 138 (eKd ⟨a, b⟩) (eKd ⟨c, d⟩) == some (keq (eKd ⟨a, b⟩) (eKd ⟨c, d⟩))) = true
  rw [h1, h2]; simp
 ·obtain ⟨a, b⟩ := s;obtain ⟨c, d⟩ := t;simp [keq, eKd, Wo]
def Jx (n : Nat) (m cov : Int) : Nat -> Nat -> Nat
 | 0, k => k
 | f + 1, k => if k < n /\ (sHas m k = false \/ sHas cov k = true) then Jx n m cov f (k + 1) else k
theorem Vd {n : Nat} {m cov : Int} {k : Nat} (h : ¬ (k < n /\ (sHas m k = false \/ sHas cov k = true))) (f : Nat) : Jx n m cov f k = k := by
 cases f with
 | zero => rfl
 | succ f => rw [Jx, if_neg h]
theorem Ui {n : Nat} {m cov : Int} {k : Nat} (h : k < n) (hc : sHas m k = false \/ sHas cov k = true) : Jx n m cov (n - k) k = Jx n m cov (n - (k + 1)) (k + 1) := by
 rw [show n - k = (n - (k + 1)) + 1 by omega, Jx, if_pos ⟨h, hc⟩]
def Yz (n : Nat) (m : Int) (s : St) : St := { s with ix := (Jx n m s.cov (n - s.ix.toNat) s.ix.toNat : Nat) }
def Xn (x : Inst) (f g : PV) (m : Int) : AM.Obj := .cells [.p (.list x.net.places_c (x.net.places.map eS)), .p (.list x.net.arcs_c (x.net.arcs.map J0)), .p (.list x.types_c (x.types.map Q2)), .p (.list x.orders_c (x.orders.map Qa)), .p (.list x.apart_c (x.apart.map eP)), .p (.list x.before_c (x.before.map eP)), .p f, .p g, .mp 0, .p (.int .i64 m)]
def Z1 (x : Inst) (f g : PV) (m : Int) (l : List (St × Int)) : List AM.Obj := [.map (l.map (eKI eSt)), Xn x f g m]
def stO (s : St) : AM.Obj := .cells (.p (.int .i64 s.ix) :: .p (.int .i64 s.cov) :: (s.used.map eI).map .p)
theorem W0 (x : Inst) (f g : PV) (m : Int) (l : List (St × Int)) (s : St) (hs : StR s) (h0 : 0 <= s.ix) (hn : x.orders.length <= 10) (h1 : s.ix <= 10) :
  ACalls Tryd.prog 21 [.ptr 1 0, .p (eSt s)] (Z1 x f g m l) fun y H' => y = .p (eSt (Yz x.orders.length m s)) /\ H' = Z1 x f g m l := by
 obtain ⟨i, v, a, b, c, d, e, u, rfl⟩ := ZW hs;obtain ⟨i, rfl⟩ : ∃ k : Nat, i = k := ⟨i.toNat, by simp only at h0; omega⟩;simp only at h0 h1;generalize hT : eSt (Yz x.orders.length m ⟨i, v, [a, b, c, d, e, u]⟩) = T;refine Ze [] Tryd.func21 rfl Zok ?_;simp (disch := omega) only [Tryd.f21, Z1, Xn, List.map_cons, List.map_nil, go_sem, seval];refine Zi [0, 3, 4] (fun k : Nat => []) (fun k => Z1 x f g m l ++ [stO ⟨k, v, [a, b, c, d, e, u]⟩, .cells (List.replicate 8 (.p (.int .i64 0)))]) (fun k => k <= 10 /\ Jx x.orders.length m v (x.orders.length - k) k = Jx x.orders.length m v (x.orders.length - i) i) (fun k => x.orders.length - k) i ⟨by omega, rfl⟩ (Weak.mk ?_) ?_
 ·simp (disch := omega) only [Z1, Xn, stO, List.map_cons, List.map_nil, List.replicate, go_sem, seval]
 ·rintro k ⟨hk, hq⟩
  have fin : ∀ q : Nat, q = Jx x.orders.length m v (x.orders.length - i) i -> eSt ⟨q, v, [a, b, c, d, e, u]⟩ = T := fun q hq => by rw [<- hT, Yz, hq]; rfl
  simp (disch := omega) only [Z1, Xn, stO, List.map_cons, List.map_nil, List.replicate, go_sem, seval];refine Zf mixed (by kernel_rfl) (by kernel_rfl) ?_;simp (disch := omega) only [go_sem, seval];refine gT ?_ ?_ <;> intro h5 <;> simp (disch := omega) only [Sh.out h5, go_sem, seval]
  ·have hk2 : k < x.orders.length := by omega
   refine Zp (ZhT m k) ?_;simp (disch := omega) only [go_sem, seval]
   cases hm : sHas m k with
   | false =>
    simp (disch := omega) only [hm, Bool.not_false, go_sem, seval];exact ⟨k + 1, ⟨by omega, by rw [<- hq, Ui hk2 (.inl hm)]⟩, by omega, Weak.mk (by simp (disch := omega) only [Z1, Xn, stO, List.map_cons, List.map_nil, List.replicate, go_sem, seval])⟩
   | true =>
    simp (disch := omega) only [hm, Bool.not_true, go_sem, seval];refine Zp (ZhT v k) ?_;simp (disch := omega) only [go_sem, seval]
    cases hv : sHas v k with
    | true =>
     simp (disch := omega) only [hv, go_sem, seval];exact ⟨k + 1, ⟨by omega, by rw [<- hq, Ui hk2 (.inr hv)]⟩, by omega, Weak.mk (by simp (disch := omega) only [Z1, Xn, stO, List.map_cons, List.map_nil, List.replicate, go_sem, seval])⟩
    | false =>
     simp (disch := omega) only [hv, go_sem, seval];exact ⟨.p (eSt ⟨k, v, [a, b, c, d, e, u]⟩), _, Weak.mk (by simp (disch := omega) only [List.map_cons, List.map_nil, go_sem, seval]), by rw [fin k (by rw [<- hq, Vd (by rw [hm, hv]; simp)])], rfl⟩
  ·exact ⟨.p (eSt ⟨k, v, [a, b, c, d, e, u]⟩), _, Weak.mk (by simp (disch := omega) only [List.map_cons, List.map_nil, go_sem, seval]), by rw [fin k (by rw [<- hq, Vd (by omega)])], rfl⟩
def KA (n : Nat) (m : Int) (s : St) : St := Yz n m { s with ix := s.ix + 1 }
theorem Qw (x : Inst) (f g : PV) (m : Int) (l : List (St × Int)) (s : St) (hs : StR s) (h0 : 0 <= s.ix) (hn : x.orders.length <= 10) (h1 : s.ix <= 9) :
  ACalls Tryd.prog 45 [.ptr 1 0, .p (eSt s)] (Z1 x f g m l) fun y H' => y = .p (eSt (KA x.orders.length m s)) /\ H' = Z1 x f g m l := by
 have hc := W0 x f g m l { s with ix := s.ix + 1 } hs (by simp only; omega) hn (by simp only; omega);obtain ⟨i, v, a, b, c, d, e, u, rfl⟩ := ZW hs;obtain ⟨q, hq⟩ : ∃ q : Int, KA x.orders.length m ⟨i, v, [a, b, c, d, e, u]⟩ = ⟨q, v, [a, b, c, d, e, u]⟩ := ⟨_, rfl⟩;have hq' : Yz x.orders.length m ⟨i + 1, v, [a, b, c, d, e, u]⟩ = ⟨q, v, [a, b, c, d, e, u]⟩ := hq;rw [hq];simp only at h0 h1 hc;rw [hq'] at hc;refine Ze [] Tryd.func45 rfl ZmO ?_;simp (disch := omega) only [Tryd.f45, Z1, Xn, List.map_cons, List.map_nil, go_sem, seval];refine hc.useP (L := [_, _]) (by rfl) ?_ (by rfl) (by rfl)
 simp (disch := omega) only [Z1, Xn, List.map_cons, List.map_nil, List.cons_append, List.nil_append, go_sem, seval];exact we
def Uf (n : Nat) (m : Int) (s : St) (T : Nat) (C S : Nat) : St := Yz n m ⟨s.ix, ((C ||| S : Nat) : Int), s.used.set T (nth s.used T + 1)⟩
def K2 (x : Inst) (s : St) (T : Nat) (C S : Nat) : Bool := decide (C &&& S = 0) && decide (nth s.used T < (nth x.types T).count)
theorem Zdy (x : Inst) (f g : PV) (m : Int) (l : List (St × Int)) (s : St) (c : Col) (hs : StR s) (h0 : 0 <= s.ix) (hn : x.orders.length <= 10) (h1 : s.ix <= 10) (C S T : Nat) (hC : s.cov = C) (hS : c.set = S) (hT : c.typ = T) (hC2 : C < 1024) (hS2 : S < 1024) (hT2 : T < x.types.length) (h6 : x.types.length <= 6)
  (hu : ∀ j, j < 6 -> 0 <= nth s.used j /\ nth s.used j <= 1048576) :
  ACalls Tryd.prog 44 [.ptr 1 0, .p (eSt s), .p (Xp c)] (Z1 x f g m l) fun y H' => y = (if K2 x s T C S = true then .tup [.p (eSt (Uf x.orders.length m s T C S)), .p (.bool true)] else .tup [.p (eSt s), .p (.bool false)]) /\ H' = Z1 x f g m l := by
 have hor : C ||| S < 1024 := Nat.or_lt_two_pow (n := 10) hC2 hS2;have hc := W0 x f g m l ⟨s.ix, ((C ||| S : Nat) : Int), s.used.set T (nth s.used T + 1)⟩ (by simp [StR]; exact hs) h0 hn h1;obtain ⟨i, v, a0, a1, a2, a3, a4, a5, rfl⟩ := ZW hs
 have hT3 : T = 0 \/ T = 1 \/ T = 2 \/ T = 3 \/ T = 4 \/ T = 5 := by omega
 have u0 := hu 0 (by omega); have u1 := hu 1 (by omega); have u2 := hu 2 (by omega); have u3 := hu 3 (by omega); have u4 := hu 4 (by omega); have u5 := hu 5 (by omega);simp only [nth, List.getD_cons_zero, List.getD_cons_succ] at u0 u1 u2 u3 u4 u5;simp only at hC h0 h1;obtain ⟨ct, cs, cp, cr⟩ := c;simp only at hS hT;subst hC; subst hS; subst hT;obtain ⟨R, hR⟩ : ∃ R : V, R = (if K2 x ⟨i, (C : Nat), [a0, a1, a2, a3, a4, a5]⟩ T C S = true then .tup [.p (eSt (Uf x.orders.length m ⟨i, (C : Nat), [a0, a1, a2, a3, a4, a5]⟩ T C S)), .p (.bool true)] else .tup [.p (eSt ⟨i, (C : Nat), [a0, a1, a2, a3, a4, a5]⟩), .p (.bool false)]) := ⟨_, rfl⟩
 rw [<- hR];obtain ⟨q, hq⟩ : ∃ q : Int, Yz x.orders.length m ⟨i, ((C ||| S : Nat) : Int), [a0, a1, a2, a3, a4, a5].set T (nth [a0, a1, a2, a3, a4, a5] T + 1)⟩ = ⟨q, ((C ||| S : Nat) : Int), [a0, a1, a2, a3, a4, a5].set T (nth [a0, a1, a2, a3, a4, a5] T + 1)⟩ := ⟨_, rfl⟩;simp only at hc;rw [hq] at hc;have hw : Uf x.orders.length m ⟨i, (C : Nat), [a0, a1, a2, a3, a4, a5]⟩ T C S = ⟨q, ((C ||| S : Nat) : Int), [a0, a1, a2, a3, a4, a5].set T (nth [a0, a1, a2, a3, a4, a5] T + 1)⟩ := hq;rw [hw] at hR;refine Ze [] Tryd.func44 rfl ZmI ?_;rcases hT3 with rfl | rfl | rfl | rfl | rfl | rfl
 all_goals
  simp (disch := omega) only [Tryd.f44, Z1, Xn, List.map_cons, List.map_nil, go_sem, seval];refine Zf mixed (by kernel_rfl) (by kernel_rfl) ?_;simp (disch := omega) only [go_sem, seval];refine gF ?_ ?_ <;> intro h5 <;> simp (disch := omega) only [Sh.out h5, go_sem, seval]
  ·have hno : (decide (C &&& S = 0)) = false := decide_eq_false (by omega);exact ⟨.tup [.p (eSt ⟨i, (C : Nat), [a0, a1, a2, a3, a4, a5]⟩), .p (.bool false)], _, Weak.mk (by simp (disch := omega) only [List.map_cons, List.map_nil, go_sem, seval]), by rw [hR, if_neg (by rw [K2, hno]; simp)], rfl⟩
  ·have hcs : C &&& S = 0 := by omega
   refine cD ?_ ?_ <;> intro h7 <;> simp (disch := omega) only [Sh.out h7, go_sem, seval]
   ·exact ⟨.tup [.p (eSt ⟨i, (C : Nat), [a0, a1, a2, a3, a4, a5]⟩), .p (.bool false)], _, Weak.mk (by simp (disch := omega) only [List.map_cons, List.map_nil, go_sem, seval]), by rw [hR, if_neg (by rw [K2, decide_eq_true hcs, Bool.true_and]; exact fun h => Int.not_lt.2 h7 (of_decide_eq_true h))], rfl⟩
   ·rw [if_pos (by rw [K2, decide_eq_true hcs, Bool.true_and]; exact decide_eq_true (Int.not_le.1 h7))] at hR;refine hc.useP (L := [_, _, _]) (by rfl) ?_ (by rfl) (by rfl);simp (disch := omega) only [Z1, Xn, List.map_cons, List.map_nil, List.cons_append, List.nil_append, List.set_cons_zero, List.set_cons_succ, go_sem, seval];exact ⟨R, _, Weak.mk (by rw [hR]; simp (disch := omega) only [nth, List.getD_cons_zero, List.getD_cons_succ, List.set_cons_zero, List.set_cons_succ, List.map_cons, List.map_nil, go_sem, seval]), rfl, rfl⟩
def X0 (o p r : Int) : Int := if 0 <= r /\ (o < 0 \/ p + r < o) then p + r else o
theorem JJ (o p r : Int) (hp : -4611686018427387904 <= p /\ p <= 4611686018427387904) (hr : -4611686018427387904 < r /\ r < 4611686018427387904) :
  ACalls Tryd.prog 43 [.p (.int .i64 p), .p (.int .i64 r), .ptr 0 0] [.cells [.p (.int .i64 o)]] fun y H' => y = .tup [] /\ H' = [.cells [.p (.int .i64 (X0 o p r))]] := by
 obtain ⟨T, hT⟩ : ∃ T, T = X0 o p r := ⟨_, rfl⟩;rw [<- hT];unfold X0 at hT;refine Ze [] Tryd.func43 rfl ZmH ?_;simp (disch := omega) only [Tryd.f43, go_sem, seval];refine gT ?_ ?_ <;> intro h1 <;> simp (disch := omega) only [Sh.out h1, go_sem, seval]
 ·refine gF ?_ ?_ <;> intro h2 <;> simp (disch := omega) only [Sh.out h2, go_sem, seval]
  ·rw [if_pos ⟨h1, .inl h2⟩] at hT;subst hT;exact we
  ·refine cD ?_ ?_ <;> intro h3 <;> simp (disch := omega) only [Sh.out h3, go_sem, seval]
   ·rw [if_pos ⟨h1, .inr h3⟩] at hT;subst hT;exact we
   ·rw [if_neg (by omega)] at hT;subst hT;exact we
 ·rw [if_neg (by omega)] at hT;subst hT;exact we
theorem VG {n : Nat} {m cov : Int} : ∀ (f k : Nat), k <= Jx n m cov f k
 | 0, k => Nat.le_refl _
 | f + 1, k => by
  rw [Jx]
  split
  ·have := VG (n := n) (m := m) (cov := cov) f (k + 1); omega
  ·omega
theorem ZaZ {n : Nat} {m cov : Int} : ∀ (f k : Nat), k <= n -> Jx n m cov f k <= n
 | 0, k, h => h
 | f + 1, k, h => by
  rw [Jx]
  split
  ·rename_i hc;exact ZaZ f (k + 1) (by omega)
  ·exact h
theorem ZaA {n : Nat} {m cov : Int} {k : Nat} (h : k < n) (hb : sHas cov k = true) : k + 1 <= Jx n m cov (n - k) k := by
 rw [Ui h (.inr hb)]; exact VG _ _
theorem WX {l : List Int} {i j : Nat} {a : Int} (h : i < l.length) : nth (l.set i a) j = if i = j then a else nth l j := by
 unfold nth
 by_cases e : i = j
 ·subst e; simp [h]
 ·simp [e, List.getD_eq_getElem?_getD, List.getElem?_set_ne e]
structure StV (n : Nat) (s : St) : Prop where
 len : StR s
 ix : 0 <= s.ix /\ s.ix <= n
 cov : ∃ C : Nat, s.cov = C /\ C < 1024
 used : ∀ j, j < 6 -> 0 <= nth s.used j /\ nth s.used j <= 1048576
theorem QD {n : Nat} {m : Int} {s : St} (h : StV n s) : StV n (Yz n m s) /\ s.ix <= (Yz n m s).ix := by
 obtain ⟨h1, h2, h3, h4⟩ := h;have a := VG (n := n) (m := m) (cov := s.cov) (n - s.ix.toNat) s.ix.toNat;have b := ZaZ (n := n) (m := m) (cov := s.cov) (n - s.ix.toNat) s.ix.toNat (by omega);exact ⟨⟨h1, by simp only [Yz]; omega, h3, h4⟩, by simp only [Yz]; omega⟩
theorem J9 {n : Nat} {m : Int} {s : St} (h : StV n s) (hi : s.ix < n) : StV n (KA n m s) /\ s.ix < (KA n m s).ix := by
 have h' : StV n { s with ix := s.ix + 1 } := ⟨h.len, by have := h.ix; simp only; omega, h.cov, h.used⟩;obtain ⟨a, b⟩ := QD (m := m) h';exact ⟨a, by simp only [KA] at b ⊢; omega⟩
theorem Zfr {C S k : Nat} (h : sHas (S : Int) k = true) : sHas ((C ||| S : Nat) : Int) k = true := by
 have key : ∀ N : Nat, sHas (N : Int) k = true ↔ k <= 62 /\ N.testBit k = true := fun N => by
  simp only [sHas, Bool.and_eq_true, decide_eq_true_eq, Int.toNat_natCast]
  have e : ((N : Int).fdiv (2 ^ k)) % 2 = ((N / 2 ^ k % 2 : Nat) : Int) := by
   rw [Int.fdiv_eq_ediv_of_nonneg _ (Int.pow_nonneg (by decide))]
   norm_cast
  rw [e, Nat.testBit_eq_decide_div_mod_eq, decide_eq_true_eq];omega
 rw [key] at h ⊢;exact ⟨h.1, by rw [Nat.testBit_or, h.2, Bool.or_true]⟩
theorem ZeS {n : Nat} {m : Int} {s : St} {T C S : Nat} (h : StV n s) (hi : s.ix < n) (hC : C < 1024) (hS : S < 1024) (hb : sHas (S : Int) s.ix = true) (hT : T < 6) (hu : nth s.used T < 1048576) : StV n (Uf n m s T C S) /\ s.ix < (Uf n m s T C S).ix := by
 have hor : C ||| S < 1024 := Nat.or_lt_two_pow (n := 10) hC hS;have hl : s.used.length = 6 := h.len
 have h' : StV n ⟨s.ix, ((C ||| S : Nat) : Int), s.used.set T (nth s.used T + 1)⟩ := by
  refine ⟨by simp only [StR, List.length_set]; exact hl, h.ix, ⟨_, rfl, hor⟩, fun j hj => ?_⟩;simp only;rw [WX (by omega)]
  split
  ·have := h.used T hT; omega
  ·exact h.used j hj
 obtain ⟨a, _⟩ := QD (m := m) h';refine ⟨a, ?_⟩;obtain ⟨k, hk⟩ : ∃ k : Nat, s.ix = k := ⟨s.ix.toNat, by have := h.ix; omega⟩;have := ZaA (n := n) (m := m) (cov := ((C ||| S : Nat) : Int)) (k := k) (by omega) (by rw [hk] at hb; exact Zfr hb);simp only [Uf, Yz, hk, Int.toNat_natCast];omega
def XF (x : Inst) (s : St) (c : Col) : Bool := K2 x s c.typ.toNat s.cov.toNat c.set.toNat
def Yc (n : Nat) (m : Int) (s : St) (c : Col) : St := Uf n m s c.typ.toNat s.cov.toNat c.set.toNat
def X2 (n : Nat) (m : Int) (x : Inst) (fst : List (List Col)) (sk : List Int) : Nat -> St -> Int
 | 0, _ => 0
 | d + 1, s => if (n : Int) <= s.ix then 0 else
  let o := (nth fst s.ix.toNat).foldl (fun o c => if XF x s c = true then X0 o c.price (X2 n m x fst sk d (Yc n m s c)) else o) (-1)
  if 0 <= nth sk s.ix.toNat then X0 o (nth sk s.ix.toNat) (X2 n m x fst sk d (KA n m s)) else o
structure ChOk (n : Nat) (x : Inst) (fst : List (List Col)) (sk : List Int) : Prop where
 col : ∀ i, i < n -> ∀ c ∈ nth fst i, (0 <= c.typ /\ c.typ < x.types.length) /\ (∃ S : Nat, c.set = S /\ S < 1024) /\ sHas c.set i = true /\ 0 <= c.price /\ c.price <= 18014398509481984
 typ : x.types.length <= 6 /\ ∀ t, t < 6 -> (nth x.types t).count <= 1048576
 skp : ∀ i, i < n -> -1 <= nth sk i /\ nth sk i <= 18014398509481984
theorem UC {n : Nat} {m : Int} {x : Inst} {fst : List (List Col)} {sk : List Int} (hc : ChOk n x fst sk) {s : St} (h : StV n s) (hi : s.ix < n) {c : Col} (hm : c ∈ nth fst s.ix.toNat) (hy : XF x s c = true) : StV n (Yc n m s c) /\ s.ix < (Yc n m s c).ix := by
 obtain ⟨⟨t0, t1⟩, ⟨S, hS, hS2⟩, hb, _⟩ := hc.col _ (by have := h.ix; omega) c hm;obtain ⟨C, hC, hC2⟩ := h.cov;have ht := hc.typ.1;have hcnt := hc.typ.2 c.typ.toNat (by omega);simp only [XF, K2, Bool.and_eq_true, decide_eq_true_eq] at hy;have hi0 := h.ix;rw [show ((s.ix.toNat : Nat) : Int) = s.ix by omega] at hb;exact ZeS h hi (by omega) (by omega) (by rw [show ((c.set.toNat : Nat) : Int) = c.set by omega]; exact hb) (by omega) (by omega)
theorem Yw {α β : Type} {f g : β -> α -> β} : ∀ {l : List α} {b : β}, (∀ a ∈ l, ∀ b, f b a = g b a) -> l.foldl f b = l.foldl g b
 | [], _, _ => rfl
 | a :: l, b, h => by
  rw [List.foldl_cons, List.foldl_cons, h a (by simp) b];exact Yw fun a ha => h a (List.mem_cons_of_mem _ ha)
theorem Yh {n : Nat} {m : Int} {x : Inst} {fst : List (List Col)} {sk : List Int} (hc : ChOk n x fst sk) : ∀ (d d' : Nat) (s : St), StV n s -> (n : Int) - s.ix < d -> (n : Int) - s.ix < d' -> X2 n m x fst sk d s = X2 n m x fst sk d' s
 | 0, _, s, h, h1, _ => by have := h.ix; omega
 | _, 0, s, h, _, h1 => by have := h.ix; omega
 | d + 1, d' + 1, s, h, h1, h2 => by
  rw [X2, X2]
  split
  ·rfl
  ·rename_i hi
   have e1 : (nth fst s.ix.toNat).foldl (fun o c => if XF x s c = true then X0 o c.price (X2 n m x fst sk d (Yc n m s c)) else o) (-1) = (nth fst s.ix.toNat).foldl (fun o c => if XF x s c = true then X0 o c.price (X2 n m x fst sk d' (Yc n m s c)) else o) (-1) := Yw fun c hm o => by
    by_cases hy : XF x s c = true
    ·obtain ⟨v1, v2⟩ := UC (m := m) hc h (by omega) hm hy;rw [if_pos hy, if_pos hy, Yh hc d d' _ v1 (by omega) (by omega)]
    ·rw [if_neg hy, if_neg hy]
   obtain ⟨v1, v2⟩ := J9 (m := m) h (by omega);rw [Yh hc d d' _ v1 (by omega) (by omega)];simp only [e1]
theorem Kb {o p r B : Int} (h1 : -1 <= o /\ o <= B) (h2 : 0 <= p) (h3 : p + r <= B) : -1 <= X0 o p r /\ X0 o p r <= B := by
 unfold X0; split <;> omega
theorem UV {α β : Type} {f : β -> α -> β} {R : β -> Prop} : ∀ {l : List α} {b : β}, R b -> (∀ a ∈ l, ∀ b, R b -> R (f b a)) -> R (l.foldl f b)
 | [], _, h, _ => h
 | a :: l, b, h, hf => by
  rw [List.foldl_cons];exact UV (hf a (by simp) b h) fun a ha => hf a (List.mem_cons_of_mem _ ha)
theorem Xu {n : Nat} {m : Int} {x : Inst} {fst : List (List Col)} {sk : List Int} (hc : ChOk n x fst sk) : ∀ (d : Nat) (s : St), StV n s -> -1 <= X2 n m x fst sk d s /\ X2 n m x fst sk d s <= (d : Int) * 18014398509481984
 | 0, s, h => by simp [X2]
 | d + 1, s, h => by
  rw [X2]
  split
  ·omega
  ·rename_i hi;have i0 := h.ix
   have e1 : -1 <= (nth fst s.ix.toNat).foldl (fun o c => if XF x s c = true then X0 o c.price (X2 n m x fst sk d (Yc n m s c)) else o) (-1) /\ (nth fst s.ix.toNat).foldl (fun o c => if XF x s c = true then X0 o c.price (X2 n m x fst sk d (Yc n m s c)) else o) (-1) <= ((d + 1 : Nat) : Int) * 18014398509481984 := by
    refine UV (R := fun o : Int => -1 <= o /\ o <= ((d + 1 : Nat) : Int) * 18014398509481984) (by omega) fun c hm o ho => ?_
    split
    ·rename_i hy;obtain ⟨v1, v2⟩ := UC (m := m) hc h (by omega) hm hy;have := Xu (m := m) hc d _ v1;have := (hc.col _ (by omega) c hm).2.2.2;exact Kb ho (by omega) (by omega)
    ·exact ho
   have hs := hc.skp s.ix.toNat (by omega);obtain ⟨v1, v2⟩ := J9 (m := m) h (by omega);have := Xu (m := m) hc d _ v1;simp only
   split
   ·exact Kb e1 (by omega) (by omega)
   ·exact e1
def Xo (l : List Col) : PV := .list false (l.map Xp)
@[go_sem] theorem ZlG (l : List Col) : Xo l = .list false (l.map Xp) := Eq.trans rfl rfl
def ZbV (c : Col) : AM.Obj := .cells [.p (.int .i64 c.typ), .p (.int .i64 c.set), .p (.int .i64 c.price), .p (.int .i64 c.route.typ), .p (.int .i64 c.route.start), .p (.list c.route.rests_c (c.route.rests.map eB)), .p (.list c.route.visits_c (c.route.visits.map ZbK))]
def Okm (n : Nat) (m : Int) (x : Inst) (fst : List (List Col)) (sk : List Int) (l : List (St × Int)) : Prop := ∀ p ∈ l, StV n p.1 /\ p.2 = X2 n m x fst sk 20 p.1
theorem Vz (x : Inst) (fst : List (List Col)) (sk : List Int) (fc sc : Bool) (m : Int) (hn : x.orders.length <= 10) (hf : fst.length = x.orders.length) (hs : sk.length = x.orders.length) (hc : ChOk x.orders.length x fst sk) (hcl : ∀ r ∈ fst, r.length <= 1048576) :
  ∀ (d : Nat) (s : St) (l : List (St × Int)), d <= 20 -> StV x.orders.length s -> (x.orders.length : Int) - s.ix < d -> Okm x.orders.length m x fst sk l ->
   ACalls Tryd.prog 20 [.ptr 1 0, .p (eSt s)] (Z1 x (.list fc (fst.map Xo)) (.list sc (sk.map eI)) m l) fun y H' => ∃ l', Okm x.orders.length m x fst sk l' /\ y = .p (.int .i64 (X2 x.orders.length m x fst sk 20 s)) /\ H' = Z1 x (.list fc (fst.map Xo)) (.list sc (sk.map eI)) m l'
 | 0, s, l, _, hv, hd, _ => by have := hv.ix; omega
 | d + 1, s, l, hd0, hv, hd, hl => by
  have ih := Vz x fst sk fc sc m hn hf hs hc hcl d;have hlR : ∀ p ∈ l, StR p.1 := fun p hp => (hl p hp).1.len;obtain ⟨i, v, a0, a1, a2, a3, a4, a5, rfl⟩ := ZW hv.len;have hi := hv.ix;simp only at hi hd;obtain ⟨i, rfl⟩ : ∃ k : Nat, i = k := ⟨i.toNat, by omega⟩;obtain ⟨T, hT⟩ : ∃ T, T = X2 x.orders.length m x fst sk 20 ⟨i, v, [a0, a1, a2, a3, a4, a5]⟩ := ⟨_, rfl⟩;rw [<- hT];refine Ze [] Tryd.func20 rfl Znz ?_;simp (disch := omega) only [Tryd.f20, Z1, Xn, List.map_cons, List.map_nil, go_sem, seval];refine Zf mixed (by kernel_rfl) (by kernel_rfl) ?_;simp (disch := omega) only [go_sem, seval]
  refine cD ?_ ?_ <;> intro h1 <;> simp (disch := omega) only [Sh.out h1, go_sem, seval]
  ·rw [X2, if_pos (by simp only; omega)] at hT;subst hT;exact ⟨_, _, wk, l, hl, rfl, rfl⟩
  ·refine Zf mixed (by kernel_rfl) (by kernel_rfl) ?_;simp (disch := omega) only [go_sem, seval];refine Zcs (UM (k := (⟨i, v, [a0, a1, a2, a3, a4, a5]⟩ : St)) Zaw hlR hv.len (by rfl)) ?_;simp (disch := omega) only [go_sem, seval]
   cases hq : mq l (⟨i, v, [a0, a1, a2, a3, a4, a5]⟩ : St) with
   | some w =>
    obtain ⟨_, hw⟩ := hl _ (ZiW hq);simp only at hw;rw [<- hw] at hT;subst hT;simp (disch := omega) only [hq, Option.isSome_some, Option.getD_some, go_sem, seval];exact ⟨_, _, wk, l, hl, rfl, rfl⟩
   | none =>
    have hi2 : i < fst.length := by omega
    have hi3 : i < sk.length := by omega
    have hrl := hcl _ (ZS hi2);simp (disch := omega) only [hq, Option.isSome_none, Option.getD_none, go_sem, seval];refine Zf mixed (by kernel_rfl) (by kernel_rfl) ?_;simp (disch := omega) only [go_sem, seval]
    let F : Int -> Col -> Int := fun o c => if XF x ⟨i, v, [a0, a1, a2, a3, a4, a5]⟩ c = true then X0 o c.price (X2 x.orders.length m x fst sk 19 (Yc x.orders.length m ⟨i, v, [a0, a1, a2, a3, a4, a5]⟩ c)) else o
    refine Zi [0, 3, 7, 8, 42, 43] (fun q : Nat × List (St × Int) => [(44, .p (.int .i64 q.1))]) (fun q => Z1 x (.list fc (fst.map Xo)) (.list sc (sk.map eI)) m q.2 ++ [stO ⟨i, v, [a0, a1, a2, a3, a4, a5]⟩, .cells [.p (.int .i64 (((nth fst i).take q.1).foldl F (-1)))]]) (fun q => q.1 <= (nth fst i).length /\ Okm x.orders.length m x fst sk q.2) (fun q => (nth fst i).length - q.1) (0, l) ⟨by simp, hl⟩ (Weak.mk ?_) ?_
    ·simp (disch := omega) only [Z1, Xn, stO, List.map_cons, List.map_nil, List.cons_append, List.nil_append, List.take_zero, List.foldl_nil, go_sem, seval]
    ·rintro ⟨k, l1⟩ ⟨hk, hl1⟩;simp only at hk hl1;have hl1R : ∀ p ∈ l1, StR p.1 := fun p hp => (hl1 p hp).1.len;generalize hacc : ((nth fst i).take k).foldl F (-1) = acc;simp (disch := omega) only [Z1, Xn, stO, List.map_cons, List.map_nil, List.cons_append, List.nil_append, go_sem, seval];refine cD ?_ ?_ <;> intro h2 <;> simp (disch := omega) only [Sh.out h2, go_sem, seval]
     ·have hk2 : k < (nth fst i).length := by omega
      have hm := ZS hk2
      have hs1 : ((nth fst i).take (k + 1)).foldl F (-1) = F acc (nth (nth fst i) k) := by
       rw [List.take_succ_eq_append_getElem hk2, List.foldl_append, <- Zm hk2, hacc]; rfl
      obtain ⟨⟨t0, t1⟩, ⟨S, hS, hS2⟩, hb, hp0, hp1⟩ := hc.col i (by omega) _ hm;obtain ⟨C, hC, hC2⟩ := hv.cov;simp only at hC;have h6 := hc.typ.1;obtain ⟨tt, htt⟩ : ∃ tt : Nat, (nth (nth fst i) k).typ = tt := ⟨(nth (nth fst i) k).typ.toNat, by omega⟩;have cw := Zdy x (.list fc (fst.map Xo)) (.list sc (sk.map eI)) m l1 ⟨i, v, [a0, a1, a2, a3, a4, a5]⟩ (nth (nth fst i) k) hv.len (by simp only; omega) hn (by simp only; omega) C S tt hC hS htt hC2 hS2 (by omega) h6 hv.used
      have hmay : XF x ⟨i, v, [a0, a1, a2, a3, a4, a5]⟩ (nth (nth fst i) k) = K2 x ⟨i, v, [a0, a1, a2, a3, a4, a5]⟩ tt C S := by simp only [XF, htt, hC, hS, Int.toNat_natCast]
      have hwc : Yc x.orders.length m ⟨i, v, [a0, a1, a2, a3, a4, a5]⟩ (nth (nth fst i) k) = Uf x.orders.length m ⟨i, v, [a0, a1, a2, a3, a4, a5]⟩ tt C S := by simp only [Yc, htt, hC, hS, Int.toNat_natCast]
      by_cases hy : K2 x ⟨i, v, [a0, a1, a2, a3, a4, a5]⟩ tt C S = true
      ·obtain ⟨v1, v2⟩ := UC (m := m) hc hv (by simp only; omega) (by simpa using hm) (by rw [hmay]; exact hy);rw [hwc] at v1 v2;obtain ⟨j, w, b0, b1, b2, b3, b4, b5, hw⟩ := ZW v1.len;rw [if_pos hy, hw] at cw;refine cw.useP (L := [_, _, _]) (by rfl) ?_ (by rfl) (by rfl);simp (disch := omega) only [Z1, Xn, stO, List.map_cons, List.map_nil, List.cons_append, List.nil_append, go_sem, seval];refine Wt [5] [1, 2] [4] 6 mixed (by kernel_rfl) (by kernel_rfl) (by kernel_rfl) (by kernel_rfl) (by simp) ?_;simp (disch := omega) only [go_sem, seval];refine ⟨fun q hq p hp => ?_, ?_⟩
       ·simp only [List.mem_cons, List.not_mem_nil, or_false] at hq;rcases hq with rfl | rfl
        ·obtain rfl : 10 = p := Option.some.inj hp;exact XA (by decide)
        ·obtain rfl : 57 = p := Option.some.inj hp;exact XA (by decide)
       ·have c3 := ((ih ⟨j, w, [b0, b1, b2, b3, b4, b5]⟩ l1 (by omega) (hw ▸ v1) (by rw [hw] at v2; simp only at v2 ⊢; omega) hl1).mono (fun y H' hq => (⟨hq, by obtain ⟨l', _, _, rfl⟩ := hq; rfl⟩ : _ /\ H'.length = (Z1 x (.list fc (fst.map Xo)) (.list sc (sk.map eI)) m l1).length))).front (by rfl) (by rfl) [stO ⟨i, v, [a0, a1, a2, a3, a4, a5]⟩, .cells [.p (.int .i64 acc)], ZbV (nth (nth fst i) k), stO ⟨j, w, [b0, b1, b2, b3, b4, b5]⟩];refine QC 5 _ (by kernel_rfl) (by simp (disch := omega) only [go_sem, seval]; exact c3) ?_;rintro y H' ⟨H1, ⟨l2, hl2, rfl, rfl⟩, rfl⟩;refine ⟨fun k hk => by simp at hk; subst hk; rfl, Jt ?_⟩
        simp (disch := omega) only [Z1, Xn, stO, ZbV, List.map_cons, List.map_nil, List.cons_append, List.nil_append, go_sem, seval];have hrg := Xu (m := m) hc 20 _ v1;rw [hw] at hrg;have c4 := (((JJ acc (nth (nth fst i) k).price (X2 x.orders.length m x fst sk 20 ⟨j, w, [b0, b1, b2, b3, b4, b5]⟩) (by omega) (by omega)).back [.map (l2.map (eKI eSt)), Xn x (.list fc (fst.map Xo)) (.list sc (sk.map eI)) m, stO ⟨i, v, [a0, a1, a2, a3, a4, a5]⟩] (by rfl)).mono (fun y H' hq => (⟨hq, by obtain ⟨y1, H2, ⟨rfl, rfl⟩, rfl, rfl⟩ := hq; rfl⟩ : _ /\ H'.length = 4))).front (by rfl) (by rfl) [ZbV (nth (nth fst i) k), stO ⟨j, w, [b0, b1, b2, b3, b4, b5]⟩]
        refine ACalls.mono c4 ?_;rintro y H' ⟨H1, ⟨y1, H2, ⟨rfl, rfl⟩, rfl, rfl⟩, rfl⟩;simp (disch := omega) only [Xn, stO, ZbV, List.map_cons, List.map_nil, List.cons_append, List.nil_append, shO, Yd, shV, go_sem, seval]
        have hF : F acc (nth (nth fst i) k) = X0 acc (nth (nth fst i) k).price (X2 x.orders.length m x fst sk 20 ⟨j, w, [b0, b1, b2, b3, b4, b5]⟩) := by
         show (if _ then _ else _) = _
         rw [if_pos (by rw [hmay]; exact hy), hwc, Yh hc 19 20 _ v1 (by have := v1.ix; simp only at v2 ⊢; omega) (by have := v1.ix; simp only at v2 ⊢; omega), hw]
        exact ⟨(k + 1, l2), ⟨by simp only; omega, hl2⟩, by simp only; omega, Weak.mk (by simp (disch := omega) only [hs1, hF, Z1, Xn, stO, List.map_cons, List.map_nil, List.cons_append, List.nil_append, go_sem, seval])⟩
      ·rw [if_neg hy] at cw;refine cw.useP (L := [_, _, _]) (by rfl) ?_ (by rfl) (by rfl);simp (disch := omega) only [Z1, Xn, stO, List.map_cons, List.map_nil, List.cons_append, List.nil_append, go_sem, seval];have hF : F acc (nth (nth fst i) k) = acc := if_neg (by rw [hmay]; exact hy);exact ⟨(k + 1, l1), ⟨by simp only; omega, hl1⟩, by simp only; omega, Weak.mk (by simp (disch := omega) only [hs1, hF, Z1, Xn, stO, List.map_cons, List.map_nil, List.cons_append, List.nil_append, go_sem, seval])⟩
     ·have hkl : k = (nth fst i).length := by omega
      subst hkl;rw [List.take_length] at hacc
      have hTe : T = if 0 <= nth sk i then X0 acc (nth sk i) (X2 x.orders.length m x fst sk 19 (KA x.orders.length m ⟨i, v, [a0, a1, a2, a3, a4, a5]⟩)) else acc := by
       rw [hT, show (20 : Nat) = 19 + 1 from rfl, X2, if_neg (by simp only; omega), <- hacc];simp only [Int.toNat_natCast]
       rfl
      refine Zf mixed (by kernel_rfl) (by kernel_rfl) ?_;simp (disch := omega) only [go_sem, seval];refine cD ?_ ?_ <;> intro h3 <;> simp (disch := omega) only [Sh.out h3, go_sem, seval]
      ·have cn := Qw x (.list fc (fst.map Xo)) (.list sc (sk.map eI)) m l1 ⟨i, v, [a0, a1, a2, a3, a4, a5]⟩ hv.len (by simp only; omega) hn (by simp only; omega);obtain ⟨v1, v2⟩ := J9 (m := m) hv (by simp only; omega);obtain ⟨j, w, b0, b1, b2, b3, b4, b5, hw⟩ := ZW v1.len;have hsk := hc.skp i (by omega);have hrg := Xu (m := m) hc 20 _ v1;rw [hw] at cn v1 v2 hrg;simp only at v2;refine cn.useP (L := [_, _]) (by rfl) ?_ (by rfl) (by rfl);simp (disch := omega) only [Z1, Xn, stO, List.map_cons, List.map_nil, List.cons_append, List.nil_append, go_sem, seval];have c3 := ((ih ⟨j, w, [b0, b1, b2, b3, b4, b5]⟩ l1 (by omega) v1 (by simp only; omega) hl1).mono (fun y H' hq => (⟨hq, by obtain ⟨l', _, _, rfl⟩ := hq; rfl⟩ : _ /\ H'.length = (Z1 x (.list fc (fst.map Xo)) (.list sc (sk.map eI)) m l1).length))).front (by rfl) (by rfl) [stO ⟨i, v, [a0, a1, a2, a3, a4, a5]⟩, .cells [.p (.int .i64 acc)]]
       refine ACalls.mono c3 ?_;rintro y H' ⟨H1, ⟨l2, hl2, rfl, rfl⟩, rfl⟩;simp (disch := omega) only [Z1, Xn, stO, List.map_cons, List.map_nil, List.cons_append, List.nil_append, go_sem, seval];refine ACalls.mono ((JJ acc (nth sk i) (X2 x.orders.length m x fst sk 20 ⟨j, w, [b0, b1, b2, b3, b4, b5]⟩) (by omega) (by omega)).back [.map (l2.map (eKI eSt)), Xn x (.list fc (fst.map Xo)) (.list sc (sk.map eI)) m, stO ⟨i, v, [a0, a1, a2, a3, a4, a5]⟩] (by rfl)) ?_;rintro y H' ⟨y1, H2, ⟨rfl, rfl⟩, rfl, rfl⟩;simp (disch := omega) only [Xn, stO, List.map_cons, List.map_nil, List.cons_append, List.nil_append, shO, Yd, shV, go_sem, seval]
       refine ZU 6 mixed (by kernel_rfl) (by kernel_rfl) ?_;simp (disch := omega) only [go_sem, seval];refine Ji (l := l2) (k := (⟨i, v, [a0, a1, a2, a3, a4, a5]⟩ : St)) Zaw (fun p hp => (hl2 p hp).1.len) hv.len (by rfl) fun l3 _ hl3 => ?_;simp (disch := omega) only [List.set_cons_zero, go_sem, seval];rw [if_pos h3, Yh hc 19 20 _ (by rw [hw]; exact v1) (by rw [hw]; simp only; omega) (by rw [hw]; simp only; omega), hw] at hTe;rw [<- hTe];exact ⟨.p (.int .i64 T), _, wk, l3, fun p hp => (hl3 p hp).elim (hl2 p) (fun e => by subst e; exact ⟨hv, by rw [<- hTe, hT]⟩), rfl, rfl⟩
      ·refine ZU 6 mixed (by kernel_rfl) (by kernel_rfl) ?_;simp (disch := omega) only [go_sem, seval];refine Ji (l := l1) (k := (⟨i, v, [a0, a1, a2, a3, a4, a5]⟩ : St)) Zaw hl1R hv.len (by rfl) fun l3 _ hl3 => ?_;simp (disch := omega) only [List.set_cons_zero, go_sem, seval];rw [if_neg h3] at hTe;rw [<- hTe];exact ⟨.p (.int .i64 T), _, wk, l3, fun p hp => (hl3 p hp).elim (hl1 p) (fun e => by subst e; exact ⟨hv, by rw [<- hTe, hT]⟩), rfl, rfl⟩
def Zb7 (n : Nat) (m : Int) (x : Inst) (fst : List (List Col)) (sk : List Int) (s : St) (c : Col) : Bool :=
 XF x s c && (decide (0 <= X2 n m x fst sk 20 (Yc n m s c)) && decide (c.price + X2 n m x fst sk 20 (Yc n m s c) = X2 n m x fst sk 20 s))
def Z2 (n : Nat) (m : Int) (x : Inst) (fst : List (List Col)) (sk : List Int) : Nat -> St -> List Col × List Int
 | 0, _ => ([], [])
 | d + 1, s => if (n : Int) <= s.ix then ([], []) else match (nth fst s.ix.toNat).find? (Zb7 n m x fst sk s) with
  | some c => (c :: (Z2 n m x fst sk d (Yc n m s c)).1, (Z2 n m x fst sk d (Yc n m s c)).2)
  | none => ((Z2 n m x fst sk d (KA n m s)).1, s.ix :: (Z2 n m x fst sk d (KA n m s)).2)
theorem JC {α : Type} [Inhabited α] {p : α -> Bool} : ∀ {l : List α} {k : Nat}, k < l.length -> (∀ j, j < k -> p (nth l j) = false) -> p (nth l k) = true -> l.find? p = some (nth l k)
 | [], _, h, _, _ => by simp at h
 | a :: l, 0, _, _, h => by
  have h' : p a = true := h;simp [List.find?, h', nth]
 | a :: l, k + 1, hk, h0, h => by
  rw [List.find?_cons_of_neg (by rw [show p a = false from h0 0 (by omega)]; simp)];exact JC (l := l) (k := k) (by simpa using hk) (fun j hj => h0 (j + 1) (by omega)) h
theorem ZeH {α : Type} [Inhabited α] {p : α -> Bool} {l : List α} (h : ∀ j, j < l.length -> p (nth l j) = false) : l.find? p = none := by
 rw [List.find?_eq_none];intro a ha;obtain ⟨j, hj, rfl⟩ := List.mem_iff_getElem.1 ha;rw [<- Zm hj, h j hj]; simp
theorem Zhd (X : AM.Obj) (hX : ∀ H n, wkO H n X X) (hX2 : ∀ o xs, fzO o xs X = X) (x : Inst) (fst : List (List Col)) (sk : List Int) (fc sc : Bool) (m : Int) (hn : x.orders.length <= 10) (hf : fst.length = x.orders.length) (hs : sk.length = x.orders.length) (hc : ChOk x.orders.length x fst sk) (hcl : ∀ r ∈ fst, r.length <= 1048576)
  (s : St) (l : List (St × Int)) (hv : StV x.orders.length s) (hl : Okm x.orders.length m x fst sk l) :
  ACalls Tryd.prog 23 [.ptr 1 0, .p (eSt s)] (Z1 x (.list fc (fst.map Xo)) (.list sc (sk.map eI)) m l ++ [X]) fun y H' => ∃ l' A B, Okm x.orders.length m x fst sk l' /\ (A, B) = Z2 x.orders.length m x fst sk 20 s /\
   y = .tup [.sl 4 0 A.length A.length, .p (.list false (B.map eI))] /\ H' = Z1 x (.list fc (fst.map Xo)) (.list sc (sk.map eI)) m l' ++ [X, .cells (List.replicate 8 .junk), .elems 7 (A.map Xp)] := by
 obtain ⟨i, v, a0, a1, a2, a3, a4, a5, rfl⟩ := ZW hv.len;obtain ⟨D, hD⟩ : ∃ D, D = 20 := ⟨20, rfl⟩;obtain ⟨R, hR⟩ : ∃ R, R = Z2 x.orders.length m x fst sk D ⟨i, v, [a0, a1, a2, a3, a4, a5]⟩ := ⟨_, rfl⟩;rw [<- hD, <- hR];have hi0 := hv.ix;simp only at hi0;refine Ze [20] Tryd.func23 rfl ZmJ ?_;simp (disch := omega) only [Tryd.f23, List.cons_append, List.nil_append, Z1, Xn, List.map_cons, List.map_nil, go_sem, seval]
 refine Xv [20] [0, 3] (fun q : Nat × St × List (St × Int) × List Col × List Int => [(6, .sl 4 0 q.2.2.2.1.length q.2.2.2.1.length), (7, .sl 5 0 q.2.2.2.2.length q.2.2.2.2.length)])
  (fun q => Z1 x (.list fc (fst.map Xo)) (.list sc (sk.map eI)) m q.2.2.1 ++ [X, stO q.2.1, .elems 7 (q.2.2.2.1.map Xp), .elems 1 (q.2.2.2.2.map eI)])
  (fun q => q.1 <= D /\ StV x.orders.length q.2.1 /\ (x.orders.length : Int) - q.2.1.ix < q.1 /\ Okm x.orders.length m x fst sk q.2.2.1 /\ (q.2.2.2.1.length : Int) <= q.2.1.ix /\ (q.2.2.2.2.length : Int) <= q.2.1.ix /\ R = (q.2.2.2.1 ++ (Z2 x.orders.length m x fst sk q.1 q.2.1).1, q.2.2.2.2 ++ (Z2 x.orders.length m x fst sk q.1 q.2.1).2))
  (fun q => q.1) (D, ⟨i, v, [a0, a1, a2, a3, a4, a5]⟩, l, [], []) ⟨by simp, hv, by simp only; omega, hl, by simp only [List.length_nil]; omega, by simp only [List.length_nil]; omega, by rw [hR]; rfl⟩
  (Weak.ofNil 6 7 (by simp (disch := omega) only [go_sem, seval]) (by simp) (Weak.ofNil 7 1 (by simp (disch := omega) only [go_sem, seval]) (by simp) (Weak.mk ?_))) ?_
 ·simp (disch := omega) only [hX, hX2, Z1, Xn, stO, List.map_cons, List.map_nil, List.cons_append, List.nil_append, List.length_nil, go_sem, seval]
 ·rintro ⟨d, s, l1, A, B⟩ ⟨hd1, hsv, hd, hl1, hA, hB, hq⟩;simp only at hd1 hsv hd hl1 hA hB hq;clear hv hR hi0;obtain ⟨i, v, a0, a1, a2, a3, a4, a5, rfl⟩ := ZW hsv.len;have hi0 := hsv.ix;simp only at hi0 hd hA hB hq;obtain ⟨i, rfl⟩ : ∃ k : Nat, i = k := ⟨i.toNat, by omega⟩;obtain ⟨d, rfl⟩ : ∃ k, d = k + 1 := ⟨d - 1, by omega⟩;simp (disch := omega) only [hX, hX2, Z1, Xn, stO, List.map_cons, List.map_nil, List.cons_append, List.nil_append, go_sem, seval];refine Zf mixed (by kernel_rfl) (by kernel_rfl) ?_;simp (disch := omega) only [go_sem, seval];refine cD ?_ ?_ <;> intro h1 <;> simp (disch := omega) only [Sh.out h1, go_sem, seval]
  ·have hi2 : i < fst.length := by omega
   have hrl := hcl _ (ZS hi2);have c3 := ((Vz x fst sk fc sc m hn hf hs hc hcl 20 ⟨i, v, [a0, a1, a2, a3, a4, a5]⟩ l1 (by omega) hsv (by simp only; omega) hl1).mono (fun y H' hq => (⟨hq, by obtain ⟨l', _, _, rfl⟩ := hq; rfl⟩ : _ /\ H'.length = (Z1 x (.list fc (fst.map Xo)) (.list sc (sk.map eI)) m l1).length))).front (by rfl) (by rfl) [X, stO ⟨i, v, [a0, a1, a2, a3, a4, a5]⟩, .elems 7 (A.map Xp), .elems 1 (B.map eI)];refine ACalls.mono c3 ?_;rintro y H' ⟨H1, ⟨l2, hl2, rfl, rfl⟩, rfl⟩;clear hl1 c3;obtain ⟨W, hW⟩ : ∃ W, W = X2 x.orders.length m x fst sk 20 ⟨i, v, [a0, a1, a2, a3, a4, a5]⟩ := ⟨_, rfl⟩
   rw [<- hW]
   have hWr : -1 <= W /\ W <= 20 * 18014398509481984 := by rw [hW]; exact Xu hc 20 _ hsv
   simp (disch := omega) only [hX, hX2, Z1, Xn, stO, List.map_cons, List.map_nil, List.cons_append, List.nil_append, go_sem, seval];refine Zf mixed (by kernel_rfl) (by kernel_rfl) ?_;simp (disch := omega) only [go_sem, seval];refine Zi [0, 3, 7, 8, 34, 35] (fun q : Nat × List (St × Int) => [(6, .sl 4 0 A.length A.length), (9, .p (.bool false)), (36, .p (.int .i64 q.1))]) (fun q => Z1 x (.list fc (fst.map Xo)) (.list sc (sk.map eI)) m q.2 ++ [X, stO ⟨i, v, [a0, a1, a2, a3, a4, a5]⟩, .elems 7 (A.map Xp), .elems 1 (B.map eI)]) (fun q => q.1 <= (nth fst i).length /\ Okm x.orders.length m x fst sk q.2 /\ ∀ j, j < q.1 -> Zb7 x.orders.length m x fst sk ⟨i, v, [a0, a1, a2, a3, a4, a5]⟩ (nth (nth fst i) j) = false) (fun q => (nth fst i).length - q.1) (0, l2) ⟨by simp, hl2, fun j hj => by simp at hj⟩ (Weak.mk ?_) ?_
   ·simp (disch := omega) only [hX, hX2, Z1, Xn, stO, List.map_cons, List.map_nil, List.cons_append, List.nil_append, go_sem, seval]
   ·rintro ⟨k, l1⟩ ⟨hk, hl1, hno⟩;simp only at hk hl1 hno;simp (disch := omega) only [hX, hX2, Z1, Xn, stO, List.map_cons, List.map_nil, List.cons_append, List.nil_append, go_sem, seval];refine cD ?_ ?_ <;> intro h2 <;> simp (disch := omega) only [Sh.out h2, go_sem, seval]
    ·have hk2 : k < (nth fst i).length := by omega
     have hm := ZS hk2;obtain ⟨⟨t0, t1⟩, ⟨S, hS, hS2⟩, hb, hp0, hp1⟩ := hc.col i (by omega) _ hm;obtain ⟨C, hC, hC2⟩ := hsv.cov;simp only at hC;have h6 := hc.typ.1;obtain ⟨tt, htt⟩ : ∃ tt : Nat, (nth (nth fst i) k).typ = tt := ⟨(nth (nth fst i) k).typ.toNat, by omega⟩;have cw := Zdy x (.list fc (fst.map Xo)) (.list sc (sk.map eI)) m l1 ⟨i, v, [a0, a1, a2, a3, a4, a5]⟩ (nth (nth fst i) k) hsv.len (by simp only; omega) hn (by simp only; omega) C S tt hC hS htt hC2 hS2 (by omega) h6 hsv.used
     have hmay : XF x ⟨i, v, [a0, a1, a2, a3, a4, a5]⟩ (nth (nth fst i) k) = K2 x ⟨i, v, [a0, a1, a2, a3, a4, a5]⟩ tt C S := by simp only [XF, htt, hC, hS, Int.toNat_natCast]
     have hwc : Yc x.orders.length m ⟨i, v, [a0, a1, a2, a3, a4, a5]⟩ (nth (nth fst i) k) = Uf x.orders.length m ⟨i, v, [a0, a1, a2, a3, a4, a5]⟩ tt C S := by simp only [Yc, htt, hC, hS, Int.toNat_natCast]
     have more : Zb7 x.orders.length m x fst sk ⟨i, v, [a0, a1, a2, a3, a4, a5]⟩ (nth (nth fst i) k) = false -> ∀ j, j < k + 1 -> Zb7 x.orders.length m x fst sk ⟨i, v, [a0, a1, a2, a3, a4, a5]⟩ (nth (nth fst i) j) = false := fun h j hj => by
      rcases Nat.lt_succ_iff_lt_or_eq.1 hj with h' | rfl
      ·exact hno j h'
      ·exact h
     by_cases hy : K2 x ⟨i, v, [a0, a1, a2, a3, a4, a5]⟩ tt C S = true
     ·obtain ⟨v1, v2⟩ := UC (m := m) hc hsv (by simp only; omega) (by simpa using hm) (by rw [hmay]; exact hy);rw [hwc] at v1 v2;obtain ⟨j, w, b0, b1, b2, b3, b4, b5, hw⟩ := ZW v1.len;rw [if_pos hy, hw] at cw;refine cw.useP (L := [_, _, _, _, _]) (by rfl) ?_ (by rfl) (by rfl);simp (disch := omega) only [hX, hX2, Z1, Xn, stO, List.map_cons, List.map_nil, List.cons_append, List.nil_append, go_sem, seval];have c3 := ((Vz x fst sk fc sc m hn hf hs hc hcl 20 ⟨j, w, [b0, b1, b2, b3, b4, b5]⟩ l1 (by omega) (hw ▸ v1) (by have := v1.ix; rw [hw] at this; simp only at this ⊢; omega) hl1).mono (fun y H' hq => (⟨hq, by obtain ⟨l', _, _, rfl⟩ := hq; rfl⟩ : _ /\ H'.length = (Z1 x (.list fc (fst.map Xo)) (.list sc (sk.map eI)) m l1).length))).front (by rfl) (by rfl) [X, stO ⟨i, v, [a0, a1, a2, a3, a4, a5]⟩, .elems 7 (A.map Xp), .elems 1 (B.map eI), ZbV (nth (nth fst i) k), stO ⟨j, w, [b0, b1, b2, b3, b4, b5]⟩]
      refine ACalls.mono c3 ?_;rintro y H' ⟨H1, ⟨l3, hl3, rfl, rfl⟩, rfl⟩;have hTr := Xu (m := m) hc 20 _ v1
      have hsel : Zb7 x.orders.length m x fst sk ⟨i, v, [a0, a1, a2, a3, a4, a5]⟩ (nth (nth fst i) k) = (decide (0 <= X2 x.orders.length m x fst sk 20 ⟨j, w, [b0, b1, b2, b3, b4, b5]⟩) && decide ((nth (nth fst i) k).price + X2 x.orders.length m x fst sk 20 ⟨j, w, [b0, b1, b2, b3, b4, b5]⟩ = W)) := by
       rw [Zb7, hmay, hy, hwc, hw, hW, Bool.true_and]
      rw [hw] at hTr;generalize X2 x.orders.length m x fst sk 20 ⟨j, w, [b0, b1, b2, b3, b4, b5]⟩ = T at hTr hsel;simp (disch := omega) only [hX, hX2, Z1, Xn, stO, ZbV, List.map_cons, List.map_nil, List.cons_append, List.nil_append, go_sem, seval];refine gT ?_ ?_ <;> intro h3 <;> simp (disch := omega) only [Sh.out h3, go_sem, seval]
      ·refine cD ?_ ?_ <;> intro h4 <;> simp (disch := omega) only [Sh.out h4, go_sem, seval]
       ·rw [decide_eq_true h3, decide_eq_true h4, Bool.true_and] at hsel
        have hp : Z2 x.orders.length m x fst sk (d + 1) ⟨i, v, [a0, a1, a2, a3, a4, a5]⟩ = (nth (nth fst i) k :: (Z2 x.orders.length m x fst sk d ⟨j, w, [b0, b1, b2, b3, b4, b5]⟩).1, (Z2 x.orders.length m x fst sk d ⟨j, w, [b0, b1, b2, b3, b4, b5]⟩).2) := by
         rw [Z2, if_neg (by simp only; omega)];simp only [Int.toNat_natCast, JC hk2 hno hsel, hwc, hw]
        rw [hw] at v1 v2;simp only at v2;rw [hp] at hq;exact ⟨(d, ⟨j, w, [b0, b1, b2, b3, b4, b5]⟩, l3, A ++ [nth (nth fst i) k], B), ⟨by omega, v1, by simp only; omega, hl3, by simp only [List.length_append, List.length_cons, List.length_nil]; omega, by simp only; omega, by simpa using hq⟩, by simp only; omega, Weak.mk (by simp (disch := omega) only [hX, hX2, Z1, Xn, stO, List.map_cons, List.map_nil, List.map_append, List.length_append, List.length_cons, List.length_nil, Nat.zero_add, List.cons_append, List.nil_append, go_sem, seval])⟩
       ·rw [decide_eq_false h4, Bool.and_false] at hsel;exact ⟨(k + 1, l3), ⟨by simp only; omega, hl3, more hsel⟩, by simp only; omega, Weak.mk (by simp (disch := omega) only [hX, hX2, Z1, Xn, stO, List.map_cons, List.map_nil, List.cons_append, List.nil_append, go_sem, seval])⟩
      ·rw [decide_eq_false h3, Bool.false_and] at hsel;exact ⟨(k + 1, l3), ⟨by simp only; omega, hl3, more hsel⟩, by simp only; omega, Weak.mk (by simp (disch := omega) only [hX, hX2, Z1, Xn, stO, List.map_cons, List.map_nil, List.cons_append, List.nil_append, go_sem, seval])⟩
     ·rw [if_neg hy] at cw;refine cw.useP (L := [_, _, _, _, _]) (by rfl) ?_ (by rfl) (by rfl);simp (disch := omega) only [hX, hX2, Z1, Xn, stO, List.map_cons, List.map_nil, List.cons_append, List.nil_append, go_sem, seval];exact ⟨(k + 1, l1), ⟨by simp only; omega, hl1, more (by rw [Zb7, hmay, Bool.eq_false_iff.2 hy, Bool.false_and])⟩, by simp only; omega, Weak.mk (by simp (disch := omega) only [hX, hX2, Z1, Xn, stO, List.map_cons, List.map_nil, List.cons_append, List.nil_append, go_sem, seval])⟩
    ·have hkl : k = (nth fst i).length := by omega
     subst hkl
     have hp : Z2 x.orders.length m x fst sk (d + 1) ⟨i, v, [a0, a1, a2, a3, a4, a5]⟩ = ((Z2 x.orders.length m x fst sk d (KA x.orders.length m ⟨i, v, [a0, a1, a2, a3, a4, a5]⟩)).1, (i : Int) :: (Z2 x.orders.length m x fst sk d (KA x.orders.length m ⟨i, v, [a0, a1, a2, a3, a4, a5]⟩)).2) := by
      rw [Z2, if_neg (by simp only; omega)];simp only [Int.toNat_natCast, ZeH hno]
     rw [hp] at hq;have cn := Qw x (.list fc (fst.map Xo)) (.list sc (sk.map eI)) m l1 ⟨i, v, [a0, a1, a2, a3, a4, a5]⟩ hsv.len (by simp only; omega) hn (by simp only; omega);obtain ⟨v1, v2⟩ := J9 (m := m) hsv (by simp only; omega);obtain ⟨j, w, b0, b1, b2, b3, b4, b5, hw⟩ := ZW v1.len;rw [hw] at cn v1 v2 hq;simp only at v2;refine cn.useP (L := [_, _, _, _, _]) (by rfl) ?_ (by rfl) (by rfl);simp (disch := omega) only [hX, hX2, Z1, Xn, stO, List.map_cons, List.map_nil, List.cons_append, List.nil_append, go_sem, seval];exact ⟨(d, ⟨j, w, [b0, b1, b2, b3, b4, b5]⟩, l1, A, B ++ [(i : Int)]), ⟨by omega, v1, by simp only; omega, hl1, by simp only; omega, by simp only [List.length_append, List.length_cons, List.length_nil]; omega, by simpa using hq⟩, by simp only; omega, Weak.mk (by simp (disch := omega) only [hX, hX2, Z1, Xn, stO, List.map_cons, List.map_nil, List.map_append, List.length_append, List.length_cons, List.length_nil, Nat.zero_add, List.cons_append, List.nil_append, go_sem, seval])⟩
  ·rw [Z2, if_pos (by simp only; omega)] at hq;simp only [List.append_nil] at hq;subst hq;refine Zr (Weak.fz (o := 5) (by rfl)) ?_;refine Za [] _ _ _ _ ?_;simp (disch := omega) only [List.map_cons, List.map_nil, List.set_cons_succ, List.set_cons_zero, go_sem, seval];exact ⟨.tup [.sl 4 0 A.length A.length, .p (.list false (B.map eI))], _, Weak.mk (by simp (disch := omega) only [hX, hX2, Z1, Xn, List.map_cons, List.map_nil, List.cons_append, List.nil_append, List.replicate, go_sem, seval]), l1, A, B, hl1, rfl, rfl, rfl⟩
def ZcK (a : List Int) (i : Nat) : Nat -> Bool
 | 0 => true
 | k + 1 => ZcK a i k && decide (nth a k ≠ nth a i)
theorem JT {a : List Int} {i : Nat} : ∀ k, ZcK a i k = true ↔ ∀ t, t < k -> nth a t ≠ nth a i
 | 0 => by simp [ZcK]
 | k + 1 => by
  rw [ZcK, Bool.and_eq_true, JT k, decide_eq_true_eq];refine ⟨fun h t ht => ?_, fun h => ⟨fun t ht => h t (by omega), h k (by omega)⟩⟩;rcases Nat.lt_succ_iff_lt_or_eq.1 ht with h1 | rfl
  ·exact h.1 t h1
  ·exact h.2
def Zgc (a : List Int) (i : Nat) : Bool := ZcK a i i
theorem Ux {a : List Int} {i : Nat} : Zgc a i = true ↔ ∀ t, t < i -> nth a t ≠ nth a i := JT i
def Km (l : List Col) (a : List Int) (T : Int) (i : Nat) : Bool := decide (0 <= nth a i) && (decide ((nth l (nth a i).toNat).typ = T) && Zgc a i)
def usdI (l : List Col) (a : List Int) (T : Int) : Nat -> Nat
 | 0 => 0
 | i + 1 => usdI l a T i + (if Km l a T i = true then 1 else 0)
def VF (S : Nat) (a : List Int) (j : Int) : List Int := (List.range a.length).map fun i => if S.testBit i = true then j else nth a i
theorem Yr {S : Nat} {a : List Int} {j : Int} : (VF S a j).length = a.length := by simp [VF]
theorem ZF {S : Nat} {a : List Int} {j : Int} {i : Nat} (h : i < a.length) : nth (VF S a j) i = if S.testBit i = true then j else nth a i := by
 rw [VF, Zm (by simpa using h)]; simp
def okA (S : Nat) (a : List Int) (k : Nat) : Bool := (List.range a.length).all fun i => !S.testBit i || (decide (nth a i < 0) && decide (k <= i))
theorem Wz {S : Nat} {a : List Int} {k : Nat} : okA S a k = true ↔ ∀ i, i < a.length -> S.testBit i = true -> nth a i < 0 /\ k <= i := by
 simp only [okA, List.all_eq_true, List.mem_range, Bool.or_eq_true, Bool.not_eq_true', Bool.and_eq_true, decide_eq_true_eq]
 constructor
 ·intro h i hi hb;rcases h i hi with h | h
  ·rw [h] at hb; cases hb
  ·exact h
 ·intro h i hi
  cases hb : S.testBit i with
  | false => exact .inl rfl
  | true => exact .inr (h i hi hb)
def K4 (x : Inst) (l : List Col) (a : List Int) (j k : Nat) : Bool :=
 (nth l j).set.toNat.testBit k && (decide ((usdI l a (nth l j).typ a.length : Int) < (nth x.types (nth l j).typ.toNat).count) && okA (nth l j).set.toNat a k)
def skR (x : Inst) (k : Nat) : Int := (YT (unsF x k).1).1
def lvs (x : Inst) (l : List Col) : Nat -> List Int -> Int -> List (List Int × Int)
 | 0, a, p => [(a, p)]
 | d + 1, a, p => if (nth x.orders (x.orders.length - (d + 1))).off = true \/ 0 <= nth a (x.orders.length - (d + 1)) then lvs x l d a p else
  ((List.range l.length).flatMap fun j => if K4 x l a j (x.orders.length - (d + 1)) = true then lvs x l d (VF (nth l j).set.toNat a j) (p + (nth l j).price) else []) ++
   (if 0 <= (nth x.orders (x.orders.length - (d + 1))).penalty then lvs x l d a (p + skR x (x.orders.length - (d + 1))) else [])
theorem Ja (n : Nat) (hn : n <= 60) : PC 29 [.p (.int .i64 n)] (.int .i64 (pw n : Nat)) := by
 refine Zb Tryd.func29 rfl Zms ?_;simp (disch := omega) only [Tryd.f29, go_sem, seval];refine Zi [0] (fun k : Nat => [(3, .p (.int .i64 (pw k : Nat))), (4, .p (.int .i64 k))]) (fun _ => []) (fun k => k <= n) (fun k => n - k) 0 (by simp) (Weak.mk ?_) ?_
 ·simp (disch := omega) only [go_sem, seval];simp [pw]
 ·intro k hk;have h62 : pw k <= pw 62 := ZcU (by omega);have h63 : k < n -> pw (k + 1) <= pw 62 := fun h => ZcU (by omega);have h64 := Zbs k;have h65 := ZiP;simp (disch := omega) only [go_sem, seval];refine cD ?_ ?_ <;> intro h <;> simp (disch := omega) only [Sh.out h, go_sem, seval]
  ·exact ⟨k + 1, by omega, by omega, Weak.mk (by simp (disch := omega) only [go_sem, seval]; simp [h64])⟩
  ·have : k = n := by omega
   rw [this]
theorem Jn (s : Nat) (i : Nat) (hs : s < 9223372036854775808) (hi : i <= 64) : PC 68 [.p (.int .i64 s), .p (.int .i64 i)] (.bool (s.testBit i)) := by
 refine Zb Tryd.func68 rfl Zof ?_;simp (disch := omega) only [Tryd.f68, go_sem, seval];refine Zi [1] (fun k : Nat => [(0, .p (.int .i64 (hv s k : Nat))), (5, .p (.int .i64 k))]) (fun _ => []) (fun k => k <= i) (fun k => i - k) 0 (by simp) (Weak.mk ?_) ?_
 ·simp (disch := omega) only [Zfi, go_sem, seval]
 ·intro k hk;have e1 := Zey s k;have h1 := Zm0 s k;simp (disch := omega) only [go_sem, seval];refine cD ?_ ?_ <;> intro h <;> simp (disch := omega) only [Sh.out h, go_sem, seval]
  ·exact ⟨k + 1, by omega, by omega, Weak.mk (by simp (disch := omega) only [go_sem, seval]; simp only [e1, and_true, PV.int.injEq, true_and]; omega)⟩
  ·have : k = i := by omega
   subst this;rw [ZdJ]
   have : ((hv s k : Nat) : Int) % 2 = 1 ↔ hv s k % 2 = 1 := by omega
   simp only [this]
structure Chc where
 found : Bool
 places : List Int
 price : Int
 deriving Inhabited
def srO (x : Inst) (lc : Bool) (l : List Col) (b : Chc) : AM.Obj := .cells [.p (.list x.net.places_c (x.net.places.map eS)), .p (.list x.net.arcs_c (x.net.arcs.map J0)), .p (.list x.types_c (x.types.map Q2)), .p (.list x.orders_c (x.orders.map Qa)), .p (.list x.apart_c (x.apart.map eP)), .p (.list x.before_c (x.before.map eP)), .p (.list lc (l.map Xp)), .p (.bool b.found), .p (.list (!b.found) (b.places.map eI)), .p (.int .i64 b.price)]
theorem Zbt {l : List Col} {a : List Int} {T : Int} : ∀ m, usdI l a T m <= m
 | 0 => Nat.le_refl _
 | m + 1 => by
  have := Zbt (l := l) (a := a) (T := T) m;rw [usdI]; split <;> omega
theorem Zcw (x : Inst) (lc : Bool) (l : List Col) (b : Chc) (a : List Int) (T : Int) (ha : a.length <= 1048576) (hr : ∀ i, i < a.length -> -1 <= nth a i /\ nth a i < l.length) (hl : l.length <= 1048576) :
  ACalls Tryd.prog 70 [.ptr 0 0, .p (.list false (a.map eI)), .p (.int .i64 T)] [srO x lc l b] fun y H' => y = .p (.int .i64 (usdI l a T a.length : Nat)) /\ H' = [srO x lc l b] := by
 refine Ze [] Tryd.func70 rfl ZmW ?_;simp (disch := omega) only [Tryd.f70, srO, go_sem, seval];refine Zi [0, 1, 2] (fun k : Nat => [(7, .p (.int .i64 (usdI l a T k : Nat))), (8, .p (.int .i64 k))]) (fun _ => [srO x lc l b]) (fun k => k <= a.length) (fun k => a.length - k) 0 (by simp) (Weak.mk ?_) ?_
 ·have h00 : ((usdI l a T 0 : Nat) : Int) = 0 := rfl;simp (disch := omega) only [h00, srO, go_sem, seval]
 ·intro k hk;have hu := Zbt (l := l) (a := a) (T := T) k;simp (disch := omega) only [srO, go_sem, seval];refine cD ?_ ?_ <;> intro h1 <;> simp (disch := omega) only [Sh.out h1, go_sem, seval]
  ·have hk2 : k < a.length := by omega
   have hrk := hr k hk2;refine Zf mixed (by kernel_rfl) (by kernel_rfl) ?_;simp (disch := omega) only [go_sem, seval];refine gF ?_ ?_ <;> intro h2 <;> simp (disch := omega) only [Sh.out h2, go_sem, seval]
   ·have e : usdI l a T (k + 1) = usdI l a T k := by rw [usdI, Km, decide_eq_false (by omega)]; simp
    exact ⟨k + 1, by omega, by omega, Weak.mk (by simp (disch := omega) only [e, srO, go_sem, seval])⟩
   ·refine cD ?_ ?_ <;> intro h3 <;> simp (disch := omega) only [Sh.out h3, go_sem, seval]
    ·have e : usdI l a T (k + 1) = usdI l a T k := by rw [usdI, Km, decide_eq_false h3]; simp
     exact ⟨k + 1, by omega, by omega, Weak.mk (by simp (disch := omega) only [e, srO, go_sem, seval])⟩
    ·have h3' : (nth l (nth a k).toNat).typ = T := Classical.not_not.1 h3;refine Zi [0, 1, 2, 7, 8] (fun q : Nat => [(9, .p (.bool (ZcK a k q))), (10, .p (.int .i64 q))]) (fun _ => [srO x lc l b]) (fun q => q <= k) (fun q => k - q) 0 (by simp) (Weak.mk ?_) ?_
     ·simp (disch := omega) only [srO, ZcK, go_sem, seval]
     ·intro q hq;simp (disch := omega) only [srO, go_sem, seval];refine cD ?_ ?_ <;> intro h4 <;> simp (disch := omega) only [Sh.out h4, go_sem, seval]
      ·refine ZU 12 mixed (by kernel_rfl) (by kernel_rfl) ?_;simp (disch := omega) only [go_sem, seval];refine gT ?_ ?_ <;> intro h5 <;> simp (disch := omega) only [Sh.out h5, go_sem, seval]
       ·exact ⟨q + 1, by omega, by omega, Weak.mk (by simp (disch := omega) only [ZcK, h5, Bool.true_and, Bool.false_and, srO, go_sem, seval])⟩
       ·exact ⟨q + 1, by omega, by omega, Weak.mk (by simp (disch := omega) only [ZcK, h5, Bool.true_and, Bool.false_and, srO, go_sem, seval])⟩
      ·have hqk : q = k := by omega
       subst hqk;refine cD ?_ ?_ <;> intro h5 <;> simp (disch := omega) only [Sh.out h5, go_sem, seval]
       ·have e : usdI l a T (q + 1) = usdI l a T q + 1 := by rw [usdI, Km, decide_eq_true (by omega), decide_eq_true h3', Zgc, h5]; simp
        exact ⟨q + 1, by omega, by omega, Weak.mk (by simp (disch := omega) only [e, srO, go_sem, seval])⟩
       ·have e : usdI l a T (q + 1) = usdI l a T q := by rw [usdI, Km, decide_eq_true (by omega), decide_eq_true h3', Zgc, h5]; simp
        exact ⟨q + 1, by omega, by omega, Weak.mk (by simp (disch := omega) only [e, srO, go_sem, seval])⟩
  ·have hka : k = a.length := by omega
   subst hka;exact we
def Qe (S : Nat) (a : List Int) (j : Int) (k : Nat) : List Int := (List.range a.length).map fun t => if t < k /\ S.testBit t = true then j else nth a t
theorem XK {S : Nat} {a : List Int} {j : Int} {k : Nat} : (Qe S a j k).length = a.length := by simp [Qe]
theorem YX {S : Nat} {a : List Int} {j : Int} {k i : Nat} (h : i < a.length) : nth (Qe S a j k) i = if i < k /\ S.testBit i = true then j else nth a i := by
 rw [Qe, Zm (by simpa using h)]; simp
theorem Zac {S : Nat} {a : List Int} {j : Int} : Qe S a j 0 = a :=
 XR XK fun i hi => by rw [XK] at hi; rw [YX hi, if_neg (by omega)]
theorem Zde {S : Nat} {a : List Int} {j : Int} : Qe S a j a.length = VF S a j :=
 XR (by rw [XK, Yr]) fun i hi => by rw [XK] at hi; rw [YX hi, ZF hi]; simp [hi]
theorem Zdc {S : Nat} {a : List Int} {j : Int} {k : Nat} (hk : k < a.length) (hb : S.testBit k = true) : (Qe S a j k).set k j = Qe S a j (k + 1) :=
 XR (by simp [XK]) fun i hi => by
  rw [List.length_set, XK] at hi;rw [WX (by rw [XK]; exact hk), YX hi, YX hi]
  by_cases e : k = i
  ·subst e; simp [hb]
  ·have : i < k + 1 ↔ i < k := by omega
   simp only [this, e, if_false]
theorem ZeP {S : Nat} {a : List Int} {j : Int} {k : Nat} (hb : S.testBit k = false) : Qe S a j (k + 1) = Qe S a j k := by
 refine List.map_congr_left fun i _ => ?_
 by_cases e : k = i
 ·subst e; simp [hb]
 ·have : i < k + 1 ↔ i < k := by omega
  simp only [this]
theorem Zdf (x : Inst) (lc : Bool) (l : List Col) (b : Chc) (a : List Int) (j k : Nat) (ha : 0 < a.length /\ a.length <= 60) (hl : l.length <= 1048576) (hj : j < l.length) (S : Nat) (hS : (nth l j).set = S) (hS2 : S < 9223372036854775808) :
  ACalls Tryd.prog 71 [.ptr 0 0, .p (.list false (a.map eI)), .p (.int .i64 j), .p (.int .i64 k)] [srO x lc l b] fun y H' => y = (if okA S a k = true then .tup [.p (.list false ((VF S a j).map eI)), .p (.bool true)] else .tup [.p (.list true []), .p (.bool false)]) /\ H' = [srO x lc l b] := by
 refine Ze [10] Tryd.func71 rfl ZmE ?_;simp (disch := omega) only [Tryd.f71, srO, go_sem, seval];rw [if_pos ⟨by omega, by omega⟩];simp (disch := omega) only [go_sem, seval];refine Xv [10] [0, 2, 3, 10] (fun q : Nat => [(11, .p (.int .i64 q))]) (fun q => [srO x lc l b, .elems 1 ((Qe S a j q).map eI)]) (fun q => q <= a.length /\ ∀ t, t < q -> S.testBit t = true -> nth a t < 0 /\ k <= t) (fun q => a.length - q) 0 ⟨by simp, fun t ht => by omega⟩ (Weak.mk ?_) ?_
 ·simp (disch := omega) only [Zac, srO, go_sem, seval]
 ·rintro q ⟨hq, hok⟩;have hul : (Qe S a j q).length = a.length := XK;simp (disch := omega) only [srO, go_sem, seval];rw [if_pos hul];simp (disch := omega) only [go_sem, seval];refine cD ?_ ?_ <;> intro h1 <;> simp (disch := omega) only [Sh.out h1, go_sem, seval]
  ·have hq2 : q < a.length := by omega
   rw [hS];refine (Jn S q hS2 (by omega)).use ?_;simp (disch := omega) only [go_sem, seval];have hn := YX (S := S) (j := (j : Int)) (k := q) hq2;rw [if_neg (by omega)] at hn;refine cD ?_ ?_ <;> intro h2 <;> simp (disch := omega) only [Sh.out h2, go_sem, seval]
   ·have hq3 : q < (Qe S a j q).length := by omega
    simp (disch := first | omega | (simp only [List.length_cons, List.length_nil, List.length_append, List.length_map, List.length_take, List.length_drop] <;> omega)) only [YL hq3, hn, hq3, hq2, hul, eq_self, go_sem, seval];refine gF ?_ ?_ <;> intro h3 <;> simp (disch := omega) only [Sh.out h3, go_sem, seval]
    ·have hno : okA S a k = false := by
      cases ho : okA S a k with
      | false => rfl
      | true => have := (Wz.1 ho q hq2 h2).1; omega
     exact ⟨.tup [.p (.list true []), .p (.bool false)], _, Weak.mk (by simp (disch := omega) only [srO, go_sem, seval]), by rw [hno]; rfl, rfl⟩
    ·refine cD ?_ ?_ <;> intro h4 <;> simp (disch := omega) only [Sh.out h4, go_sem, seval]
     ·have hno : okA S a k = false := by
       cases ho : okA S a k with
       | false => rfl
       | true => have := (Wz.1 ho q hq2 h2).2; omega
      exact ⟨.tup [.p (.list true []), .p (.bool false)], _, Weak.mk (by simp (disch := omega) only [srO, go_sem, seval]), by rw [hno]; rfl, rfl⟩
     ·have ZA : ((Qe S a j q).map eI).set q (.int .i64 j) = (Qe S a j (q + 1)).map eI := by rw [<- Zdc hq2 h2, List.map_set]; rfl
      simp (disch := first | omega | (simp only [List.length_cons, List.length_nil, List.length_append, List.length_map, List.length_take, List.length_drop] <;> omega)) only [ZA, YL hq3, hn, hq3, hq2, hul, eq_self, go_sem, seval]
      exact ⟨q + 1, ⟨by omega, fun t ht hb => by
       rcases Nat.lt_succ_iff_lt_or_eq.1 ht with h5 | rfl
       ·exact hok t h5 hb
       ·exact ⟨by omega, by omega⟩⟩, by omega, Weak.mk (by simp (disch := omega) only [ZA, srO, go_sem, seval])⟩
   ·have hu : Qe S a j (q + 1) = Qe S a j q := ZeP h2
    exact ⟨q + 1, ⟨by omega, fun t ht hb => by
     rcases Nat.lt_succ_iff_lt_or_eq.1 ht with h5 | rfl
     ·exact hok t h5 hb
     ·rw [h2] at hb; cases hb⟩, by omega, Weak.mk (by simp (disch := omega) only [hu, srO, go_sem, seval])⟩
  ·have hqa : q = a.length := by omega
   subst hqa;have hyes : okA S a k = true := Wz.2 hok;rw [hyes, if_pos rfl, Zde];have hal : (VF S a j).length = a.length := Yr;refine Zr (Weak.fz (o := 1) (by rfl)) ?_;refine Za [] _ _ _ _ ?_;simp (disch := omega) only [List.map_cons, List.map_nil, List.set_cons_succ, List.set_cons_zero, srO, hal, eq_self, if_true, go_sem, seval];exact ⟨.tup [.p (.list false ((VF S a j).map eI)), .p (.bool true)], _, Weak.mk (by simp (disch := omega) only [srO, go_sem, seval]), rfl, rfl⟩
def UH (l : List Col) : List Int -> List Int -> Option Bool
 | x :: a, y :: b => if x = y then UH l a b else if x < 0 \/ y < 0 then some (decide (0 <= x)) else if (nth l x.toNat).typ ≠ (nth l y.toNat).typ then some (decide ((nth l x.toNat).typ < (nth l y.toNat).typ)) else
   if (nth l x.toNat).set ≠ (nth l y.toNat).set then some (decide ((nth l x.toNat).set < (nth l y.toNat).set)) else UH l a b
 | _, _ => none
def K6 : List Int -> List Int -> Bool
 | x :: a, y :: b => if x = y then K6 a b else decide (x < y)
 | _, _ => false
def K8 (l : List Col) (a b : List Int) : Bool := match UH l a b with
 | some r => r
 | none => K6 a b
theorem JS {l : List Col} : UH l [] [] = none := by simp [UH]
theorem Zb5 : K6 [] [] = false := by simp [K6]
theorem WW {α : Type} [Inhabited α] {l : List α} {k : Nat} (h : k < l.length) : l.drop k = nth l k :: l.drop (k + 1) := by
 rw [Zm h]; exact List.drop_eq_getElem_cons h
theorem XS {l : List Col} {a b : List Int} {r : Bool} (h : UH l a b = some r) : K8 l a b = r := by rw [K8, h]
theorem Vy {l : List Col} {a b : List Int} (h : UH l a b = none) : K8 l a b = K6 a b := by rw [K8, h]
theorem KF (x : Inst) (lc : Bool) (l : List Col) (b : Chc) (a d : List Int) (dc : Bool) (ha : a.length <= 1048576) (hd : d.length = a.length) (hr : ∀ i, i < a.length -> -1 <= nth a i /\ nth a i < l.length) (hq : ∀ i, i < a.length -> -1 <= nth d i /\ nth d i < l.length) (hl : l.length <= 1048576) :
  ACalls Tryd.prog 69 [.ptr 0 0, .p (.list false (a.map eI)), .p (.list dc (d.map eI))] [srO x lc l b] fun y H' => y = .p (.bool (K8 l a d)) /\ H' = [srO x lc l b] := by
 obtain ⟨B, hB⟩ : ∃ B, B = K8 l a d := ⟨_, rfl⟩;rw [<- hB];refine Ze [] Tryd.func69 rfl ZmV ?_;simp (disch := omega) only [Tryd.f69, srO, go_sem, seval];refine Zi [0, 1, 2] (fun k : Nat => [(7, .p (.int .i64 k))]) (fun _ => [srO x lc l b]) (fun k => k <= a.length /\ UH l (a.drop k) (d.drop k) = UH l a d) (fun k => a.length - k) 0 (by simp) (Weak.mk ?_) ?_
 ·simp (disch := omega) only [srO, go_sem, seval]
 ·rintro k ⟨hk, hb⟩;simp (disch := omega) only [srO, go_sem, seval];refine cD ?_ ?_ <;> intro h1 <;> simp (disch := omega) only [Sh.out h1, go_sem, seval]
  ·have hk2 : k < a.length := by omega
   have hk3 : k < d.length := by omega
   have hrk := hr k hk2;have hqk := hq k hk2;rw [WW hk2, WW hk3, UH] at hb;refine Zf mixed (by kernel_rfl) (by kernel_rfl) ?_;simp (disch := omega) only [go_sem, seval];refine cD ?_ ?_ <;> intro h2 <;> simp (disch := omega) only [Sh.out h2, go_sem, seval]
   ·rw [if_pos h2] at hb;exact ⟨k + 1, ⟨by omega, hb⟩, by omega, Weak.mk (by simp (disch := omega) only [srO, go_sem, seval])⟩
   ·rw [if_neg h2] at hb;refine gF ?_ ?_ <;> intro h3 <;> simp (disch := omega) only [Sh.out h3, go_sem, seval]
    ·rw [if_pos (.inl h3)] at hb;have e := XS hb.symm;exact ⟨.p (.bool B), _, Weak.mk (by simp (disch := omega) only [hB, e, go_sem, seval]), rfl, rfl⟩
    ·refine cD ?_ ?_ <;> intro h4 <;> simp (disch := omega) only [Sh.out h4, go_sem, seval]
     ·rw [if_pos (.inr h4)] at hb;have e := XS hb.symm;exact ⟨.p (.bool B), _, Weak.mk (by simp (disch := omega) only [hB, e, go_sem, seval]), rfl, rfl⟩
     ·rw [if_neg (by omega)] at hb;refine VY [10] 11 mixed (by kernel_rfl) (by kernel_rfl) (by kernel_rfl) (by simp) ?_;simp (disch := omega) only [go_sem, seval];refine VW _ _ (by simp (disch := omega) only [go_sem, seval]; exact ⟨rfl, rfl⟩) ?_;simp (disch := omega) only [go_sem, seval];refine VY [10] 11 mixed (by kernel_rfl) (by kernel_rfl) (by kernel_rfl) (by simp) ?_;simp (disch := omega) only [go_sem, seval];refine VW _ _ (by simp (disch := omega) only [go_sem, seval]; exact ⟨rfl, rfl⟩) ?_;simp (disch := omega) only [go_sem, seval];refine cD ?_ ?_ <;> intro h5 <;> simp (disch := omega) only [Sh.out h5, go_sem, seval]
      ·rw [if_pos h5] at hb;have e := XS hb.symm;exact ⟨.p (.bool B), _, Weak.mk (by simp (disch := omega) only [hB, e, go_sem, seval]), rfl, rfl⟩
      ·rw [if_neg h5] at hb;refine cD ?_ ?_ <;> intro h6 <;> simp (disch := omega) only [Sh.out h6, go_sem, seval]
       ·rw [if_pos h6] at hb;have e := XS hb.symm;exact ⟨.p (.bool B), _, Weak.mk (by simp (disch := omega) only [hB, e, go_sem, seval]), rfl, rfl⟩
       ·rw [if_neg h6] at hb;exact ⟨k + 1, ⟨by omega, hb⟩, by omega, Weak.mk (by simp (disch := omega) only [srO, go_sem, seval])⟩
  ·have hka : k = a.length := by omega
   subst hka;rw [List.drop_length, <- hd, List.drop_length, JS] at hb;have e := Vy hb.symm;refine Zi [1, 2] (fun k : Nat => [(10, .p (.int .i64 k))]) (fun _ => [srO x lc l b]) (fun k => k <= a.length /\ K6 (a.drop k) (d.drop k) = K6 a d) (fun k => a.length - k) 0 (by simp) (Weak.mk ?_) ?_
   ·simp (disch := omega) only [srO, go_sem, seval]
   ·rintro k ⟨hk, hb⟩;simp (disch := omega) only [srO, go_sem, seval];refine cD ?_ ?_ <;> intro h2 <;> simp (disch := omega) only [Sh.out h2, go_sem, seval]
    ·have hk2 : k < a.length := by omega
     have hk3 : k < d.length := by omega
     rw [WW hk2, WW hk3, K6] at hb;refine Zf mixed (by kernel_rfl) (by kernel_rfl) ?_;simp (disch := omega) only [go_sem, seval];refine cD ?_ ?_ <;> intro h3 <;> simp (disch := omega) only [Sh.out h3, go_sem, seval]
     ·rw [if_neg h3] at hb;refine ZU 9 mixed (by kernel_rfl) (by kernel_rfl) ?_;simp (disch := omega) only [go_sem, seval];exact ⟨.p (.bool B), _, Weak.mk (by simp (disch := omega) only [hB, e, <- hb, go_sem, seval]), rfl, rfl⟩
     ·rw [if_pos (Classical.not_not.1 h3)] at hb;exact ⟨k + 1, ⟨by omega, hb⟩, by omega, Weak.mk (by simp (disch := omega) only [srO, go_sem, seval])⟩
    ·have hka : k = a.length := by omega
     subst hka;rw [List.drop_length, <- hd, List.drop_length, Zb5] at hb;exact ⟨.p (.bool B), _, Weak.mk (by simp (disch := omega) only [hB, e, <- hb, go_sem, seval]), rfl, rfl⟩
def Wx (l : List Col) (b : Chc) (q : List Int × Int) : Chc := if b.found = false \/ q.2 < b.price \/ (q.2 = b.price /\ K8 l q.1 b.places = true) then ⟨true, q.1, q.2⟩ else b
def RngA (x : Inst) (l : List Col) (a : List Int) : Prop := a.length = x.orders.length /\ ∀ i, i < x.orders.length -> -1 <= nth a i /\ nth a i < l.length
def ChB (x : Inst) (l : List Col) (b : Chc) : Prop := b.found = true -> RngA x l b.places
theorem Ue {x : Inst} {l : List Col} {a : List Int} {S j : Nat} (h : RngA x l a) (hj : j < l.length) : RngA x l (VF S a j) :=
 ⟨by rw [Yr]; exact h.1, fun i hi => by
  rw [ZF (by rw [h.1]; exact hi)]
  split
  ·omega
  ·exact h.2 i hi⟩
theorem Wy {x : Inst} {l : List Col} : ∀ (d : Nat) {a : List Int} {p : Int}, RngA x l a -> ∀ q ∈ lvs x l d a p, RngA x l q.1
 | 0, a, p, h, q, hq => by
  simp only [lvs, List.mem_cons, List.not_mem_nil, or_false] at hq;subst hq; exact h
 | d + 1, a, p, h, q, hq => by
  rw [lvs] at hq
  split at hq
  ·exact Wy d h q hq
  ·rw [List.mem_append, List.mem_flatMap] at hq;rcases hq with ⟨j, hj, hq⟩ | hq
   ·split at hq
    ·exact Wy d (Ue h (List.mem_range.1 hj)) q hq
    ·simp at hq
   ·split at hq
    ·exact Wy d h q hq
    ·simp at hq
theorem Jw {x : Inst} {l : List Col} : ∀ {L : List (List Int × Int)} {b : Chc}, ChB x l b -> (∀ q ∈ L, RngA x l q.1) -> ChB x l (L.foldl (Wx l) b)
 | [], _, h, _ => h
 | q :: L, b, h, hL => by
  rw [List.foldl_cons];refine Jw (L := L) ?_ fun q hq => hL q (List.mem_cons_of_mem _ hq);unfold Wx
  split
  ·exact fun _ => hL q (by simp)
  ·exact h
structure ColsR (x : Inst) (l : List Col) : Prop where
 n4 : x.orders.length <= 4
 t6 : x.types.length <= 6
 len : l.length <= 1048576
 col : ∀ c ∈ l, (0 <= c.typ /\ c.typ < x.types.length) /\ (0 <= c.price /\ c.price <= 18014398509481984) /\ ∃ S : Nat, c.set = S /\ S < 16
 sk : ∀ k, k < x.orders.length -> (nth x.orders k).off = false -> 0 <= (nth x.orders k).penalty -> 0 <= skR x k /\ skR x k <= 18014398509481984
 us : ∀ i, scoR 1152921504606846976 (unsF x i).1
theorem Ze4 {P : Program} {f : FuncId} {az : List V} {z : PV} {O : AM.Obj} {L : List AM.Obj} {B : V -> Prop} {t} (h : ACalls P f az [O] fun y H' => y = .p z /\ H' = [O]) (k : B (.p z)) (ha : ZQ 1 az = true := by rfl) (hf : refH 1 [O] = true := by rfl) :
  exq (fun y => ACalls P f az (O :: L) (Zs (Zs (fun x H' => x = y /\ H' = O :: L) ⟨⟩) ⟨⟩)) (Zs B t) :=
 ⟨.p z, h.useP (L := L) rfl ⟨rfl, rfl⟩ ha hf, k⟩
theorem Zov {P : Program} {f : FuncId} {az : List V} {v : V} {O : AM.Obj} {L : List AM.Obj} {K : V -> List AM.Obj -> Prop} (h : ACalls P f az [O] fun y H' => y = v /\ H' = [O]) (k : K v (O :: L)) (ha : ZQ 1 az = true := by rfl) (hf : refH 1 [O] = true := by rfl) : ACalls P f az (O :: L) K :=
 h.useP (L := L) rfl k ha hf
def Zlh (x : Inst) (lc : Bool) (l : List Col) (d : Nat) : Prop := ∀ (a : List Int) (p : Int) (b : Chc), d <= x.orders.length -> RngA x l a -> 0 <= p -> p + (d : Int) * 18014398509481984 <= 90071992547409920 -> ChB x l b ->
  ACalls Tryd.prog 48 [.ptr 0 0, .p (.list false (a.map eI)), .p (.int .i64 ((x.orders.length - d : Nat) : Int)), .p (.int .i64 p)] [srO x lc l b] fun y H' => y = .tup [] /\ H' = [srO x lc l ((lvs x l d a p).foldl (Wx l) b)]
theorem Zfb (x : Inst) (lc : Bool) (l : List Col) (hC : ColsR x l) : Zlh x lc l 0 := by
 intro a p b hd ha hp0 hp1 hb;have h4 := hC.n4;have hl := hC.len;obtain ⟨R, hR⟩ : ∃ R, R = srO x lc l ((lvs x l 0 a p).foldl (Wx l) b) := ⟨_, rfl⟩;rw [<- hR, Nat.sub_zero];simp only [lvs, List.foldl_cons, List.foldl_nil] at hR;refine Ze [] Tryd.func48 rfl ZhS ?_;obtain ⟨f, bp, bc⟩ := b
 cases f with
 | false =>
  rw [Wx, if_pos (.inl rfl)] at hR;simp (disch := omega) only [Tryd.f48, srO, Bool.not_false, go_sem, seval];exact ⟨_, [R], Weak.mk (by simp (disch := omega) only [hR, srO, Bool.not_true, go_sem, seval]), rfl, rfl⟩
 | true =>
  simp (disch := omega) only [Tryd.f48, srO, Bool.not_true, go_sem, seval];refine gF ?_ ?_ <;> intro h1 <;> simp (disch := omega) only [Sh.out h1, go_sem, seval]
  ·rw [Wx, if_pos (.inr (.inl h1))] at hR;exact ⟨_, [R], Weak.mk (by simp (disch := omega) only [hR, srO, Bool.not_true, go_sem, seval]), rfl, rfl⟩
  ·refine gT ?_ ?_ <;> intro h2 <;> simp (disch := omega) only [Sh.out h2, go_sem, seval]
   ·have hq := hb rfl;refine ACalls.mono (KF x lc l ⟨true, bp, bc⟩ a bp (!true) (by rw [ha.1]; omega) (by rw [ha.1]; exact hq.1) (fun i hi => ha.2 i (by rw [<- ha.1]; exact hi)) (fun i hi => hq.2 i (by rw [<- ha.1]; exact hi)) hl) ?_;rintro y H' ⟨rfl, rfl⟩;simp (disch := omega) only [srO, Bool.not_true, go_sem, seval];refine cD ?_ ?_ <;> intro h3 <;> simp (disch := omega) only [Sh.out h3, go_sem, seval]
    ·rw [Wx, if_pos (.inr (.inr ⟨h2, h3⟩))] at hR;exact ⟨_, [R], Weak.mk (by simp (disch := omega) only [hR, srO, Bool.not_true, go_sem, seval]), rfl, rfl⟩
    ·rw [Wx, if_neg (fun h => h.elim (fun h => by cases h) fun h => h.elim (fun h => h1 h) fun h => by rw [show K8 l a bp = true from h.2] at h3; cases h3)] at hR;exact ⟨_, [R], Weak.mk (by simp (disch := omega) only [hR, srO, Bool.not_true, go_sem, seval]), rfl, rfl⟩
   ·rw [Wx, if_neg (fun h => h.elim (fun h => by cases h) fun h => h.elim (fun h => h1 h) fun h => h2 h.1)] at hR;exact ⟨_, [R], Weak.mk (by simp (disch := omega) only [hR, srO, Bool.not_true, go_sem, seval]), rfl, rfl⟩
theorem Zei (x : Inst) (lc : Bool) (l : List Col) (hC : ColsR x l) (d : Nat) (ih : Zlh x lc l d) : Zlh x lc l (d + 1) := by
 intro a p b hd ha hp0 hp1 hb;have h4 := hC.n4;have h6 := hC.t6;have hl := hC.len;obtain ⟨k, hk⟩ : ∃ k, k = x.orders.length - (d + 1) := ⟨_, rfl⟩
 have hk1 : k < x.orders.length := by omega
 have hkd : x.orders.length - d = k + 1 := by omega
 obtain ⟨R, hR⟩ : ∃ R, R = srO x lc l ((lvs x l (d + 1) a p).foldl (Wx l) b) := ⟨_, rfl⟩;rw [<- hR, <- hk];rw [lvs, <- hk] at hR;have hla : a.length = x.orders.length := ha.1
 have hka : k < a.length := by omega
 refine Ze [] Tryd.func48 rfl ZhS ?_;simp (disch := omega) only [Tryd.f48, srO, go_sem, seval]
 have nxt : ∀ (a' : List Int) (p' : Int) (b' : Chc) (L : List AM.Obj) (K : V -> List AM.Obj -> Prop), RngA x l a' -> 0 <= p' -> p' + (d : Int) * 18014398509481984 <= 90071992547409920 -> ChB x l b' -> K (.tup []) (srO x lc l ((lvs x l d a' p').foldl (Wx l) b') :: L) ->
   ACalls Tryd.prog 48 [.ptr 0 0, .p (.list false (a'.map eI)), .p (.int .i64 ((k : Int) + 1)), .p (.int .i64 p')] (srO x lc l b' :: L) K := fun a' p' b' L K h1 h2 h3 h5 hK => by
  have hi := ih a' p' b' (by omega) h1 h2 h3 h5;rw [hkd] at hi;refine ((hi.mono fun y H' hq => (⟨hq, by rw [hq.2]; rfl⟩ : _ /\ H'.length = [srO x lc l b'].length)).front (by rfl) (by rfl) L).mono ?_;rintro y H' ⟨H1, ⟨rfl, rfl⟩, rfl⟩;exact hK
 refine cD ?_ ?_ <;> intro h0 <;> simp (disch := omega) only [Sh.out h0, go_sem, seval]
 ·omega
 ·cases ho : (nth x.orders k).off with
  | true =>
   rw [if_pos (.inl ho)] at hR;simp (disch := omega) only [ho, go_sem, seval];refine nxt a p b [_] _ ha hp0 (by omega) hb ?_;simp (disch := omega) only [srO, go_sem, seval];exact ⟨_, [R], Weak.mk (by simp (disch := omega) only [hR, srO, go_sem, seval]), rfl, rfl⟩
  | false =>
   simp (disch := omega) only [ho, go_sem, seval];refine cD ?_ ?_ <;> intro h1 <;> simp (disch := omega) only [Sh.out h1, go_sem, seval]
   ·rw [if_pos (.inr h1)] at hR;refine nxt a p b [_] _ ha hp0 (by omega) hb ?_;simp (disch := omega) only [srO, go_sem, seval];exact ⟨_, [R], Weak.mk (by simp (disch := omega) only [hR, srO, go_sem, seval]), rfl, rfl⟩
   ·rw [if_neg (by rw [ho]; simp only [Bool.false_eq_true, false_or]; exact h1)] at hR;obtain ⟨G, hG⟩ : ∃ G : Nat -> List (List Int × Int), G = fun j => if K4 x l a j k = true then lvs x l d (VF (nth l j).set.toNat a j) (p + (nth l j).price) else [] := ⟨_, rfl⟩;rw [<- hG, List.foldl_append] at hR
    have hGr : ∀ q : Nat, q <= l.length -> ∀ e ∈ (List.range q).flatMap G, RngA x l e.1 := fun q hq e he => by
     obtain ⟨j, hj, he⟩ := List.mem_flatMap.1 he;rw [hG] at he;simp only at he
     split at he
     ·exact Wy d (Ue ha (by have := List.mem_range.1 hj; omega)) e he
     ·simp at he
    have hGs : ∀ q : Nat, ((List.range (q + 1)).flatMap G).foldl (Wx l) b = (G q).foldl (Wx l) (((List.range q).flatMap G).foldl (Wx l) b) := fun q => by
     rw [List.range_succ, List.flatMap_append, List.foldl_append]; simp
    obtain ⟨B, hB⟩ : ∃ B : Nat -> Chc, B = fun q => ((List.range q).flatMap G).foldl (Wx l) b := ⟨_, rfl⟩
    have hBs : ∀ q, B (q + 1) = (G q).foldl (Wx l) (B q) := fun q => by rw [hB]; exact hGs q
    have hB0 : B 0 = b := by rw [hB]; simp
    have hBc : ∀ q, q <= l.length -> ChB x l (B q) := fun q hq => by rw [hB]; exact Jw hb (hGr q hq)
    have hRB : R = srO x lc l ((if 0 <= (nth x.orders k).penalty then lvs x l d a (p + skR x k) else []).foldl (Wx l) (B l.length)) := by rw [hR, hB]
    clear hR hGs hGr hB;refine Zi [0, 1, 2, 3, 9] (fun q : Nat => [(10, .p (.int .i64 q))]) (fun q => [srO x lc l (B q), Xl (nth x.orders k)]) (fun q => q <= l.length) (fun q => l.length - q) 0 (by simp) (Weak.mk ?_) ?_
    ·simp (disch := omega) only [srO, Xl, hB0, ho, go_sem, seval]
    ·intro q hq;simp (disch := omega) only [srO, Xl, ho, go_sem, seval];refine cD ?_ ?_ <;> intro h2 <;> simp (disch := omega) only [Sh.out h2, go_sem, seval]
     ·have hq2 : q < l.length := by omega
      obtain ⟨⟨t0, t1⟩, ⟨c0, c1⟩, S, hS, hS2⟩ := hC.col _ (YP hq2);refine Zf mixed (by kernel_rfl) (by kernel_rfl) ?_;simp (disch := omega) only [go_sem, seval]
      have hST : (nth l q).set.toNat = S := by rw [hS, Int.toNat_natCast]
      have hGq : K4 x l a q k = (S.testBit k && (decide ((usdI l a (nth l q).typ a.length : Int) < (nth x.types (nth l q).typ.toNat).count) && okA S a k)) := by rw [K4, hST]
      have hnx : ∀ c : Bool, K4 x l a q k = c -> B (q + 1) = (if c = true then (lvs x l d (VF S a q) (p + (nth l q).price)).foldl (Wx l) (B q) else B q) := fun c hc => by
       rw [hBs, hG]; simp only [hST, hc]
       cases c <;> simp
      rw [hS];refine Zp (Jn S k (by omega) (by omega)) ?_;simp (disch := omega) only [go_sem, seval];refine gT ?_ ?_ <;> intro h3 <;> simp (disch := omega) only [Sh.out h3, go_sem, seval]
      ·refine Ze4 (Zcw x lc l (B q) a (nth l q).typ (by omega) (fun i hi => ha.2 i (by rw [<- hla]; exact hi)) hl) ?_;simp (disch := omega) only [go_sem, seval];refine cD ?_ ?_ <;> intro h4 <;> simp (disch := omega) only [Sh.out h4, go_sem, seval]
       ·have hw := Zdf x lc l (B q) a q k ⟨by omega, by omega⟩ hl hq2 S hS (by omega)
        cases hok : okA S a k with
        | true =>
         rw [hok, if_pos rfl] at hw;refine Zov hw ?_;simp (disch := omega) only [go_sem, seval];have e := hnx true (by rw [hGq, h3, hok]; simp [h4]);rw [if_pos rfl] at e;refine nxt (VF S a q) (p + (nth l q).price) (B q) [_] _ (Ue ha hq2) (by omega) (by omega) (hBc q (by omega)) ?_;simp (disch := omega) only [srO, go_sem, seval];exact ⟨q + 1, by omega, by omega, Weak.mk (by simp (disch := omega) only [e, srO, Xl, ho, go_sem, seval])⟩
        | false =>
         rw [hok, if_neg (by simp)] at hw;refine Zov hw ?_;simp (disch := omega) only [go_sem, seval];have e := hnx false (by rw [hGq, hok]; simp);rw [if_neg (by simp)] at e;exact ⟨q + 1, by omega, by omega, Weak.mk (by simp (disch := omega) only [e, srO, Xl, ho, go_sem, seval])⟩
       ·have e := hnx false (by rw [hGq]; simp [h4]);rw [if_neg (by simp)] at e;exact ⟨q + 1, by omega, by omega, Weak.mk (by simp (disch := omega) only [e, srO, Xl, ho, go_sem, seval])⟩
      ·have e := hnx false (by rw [hGq, h3]; simp);rw [if_neg (by simp)] at e;exact ⟨q + 1, by omega, by omega, Weak.mk (by simp (disch := omega) only [e, srO, Xl, ho, go_sem, seval])⟩
     ·have hql : q = l.length := by omega
      subst hql;refine cD ?_ ?_ <;> intro h3 <;> simp (disch := omega) only [Sh.out h3, go_sem, seval]
      ·rw [if_pos h3] at hRB;have hsk := hC.sk k hk1 ho h3;refine Zfz (QG x k (by omega)) ?_;simp (disch := omega) only [go_sem, seval];refine Zfz (KS (unsF x k).1 (hC.us k)) ?_;simp (disch := omega) only [go_sem, seval];have e1 : (YT (unsF x k).1).1 = skR x k := rfl;rw [e1];simp (disch := omega) only [go_sem, seval];refine nxt a (p + skR x k) (B l.length) [_, _] _ ha (by omega) (by omega) (hBc _ (Nat.le_refl _)) ?_;simp (disch := omega) only [srO, go_sem, seval];exact ⟨_, [R], Weak.mk (by simp (disch := omega) only [hRB, srO, go_sem, seval]), rfl, rfl⟩
      ·rw [if_neg h3] at hRB;exact ⟨_, [R], Weak.mk (by simp (disch := omega) only [hRB, srO, List.foldl_nil, go_sem, seval]), rfl, rfl⟩
theorem ZaX (x : Inst) (lc : Bool) (l : List Col) (hC : ColsR x l) : ∀ d, Zlh x lc l d
 | 0 => Zfb x lc l hC
 | d + 1 => Zei x lc l hC d (ZaX x lc l hC d)
end Go.Proofs.YtkhgmjdijnmhbaaDoor.K
