/- Declarations that the closing texts need, part 13: joined by tools/slim.py. -/
import Derived.Test.YtcdoglogglbemaaGreatDoorZb12
import Derived.Test.YtcdoglogglbemaaGreatDoorRows
namespace Go.Proofs.YtcdoglogglbemaaGreatDoor.K
open Go Go.AM Go.Proofs
theorem Zi0 : Tryz.prog.cellsOf 3 = 1 := by kernel_rfl
theorem Zy6 : Tryz.prog.cellsOf 4 = 1 := by kernel_rfl
theorem ZzA : Tryz.prog.cellsOf 9 = 1 := by kernel_rfl
theorem Zxl : Tryz.prog.cellsOf 22 = 1 := by kernel_rfl
theorem ZwI : Tryz.prog.cellsOf 23 = 1 := by kernel_rfl
theorem Zou : Tryz.prog.cellsOf 25 = 2 := by kernel_rfl
theorem Zv0 : pcs Tryz.prog 25 = some [(0, 22), (1, 23)] := by kernel_rfl
theorem Zw9 : Tryz.prog.cellsOf 26 = 1 := by kernel_rfl
theorem Zwd : Tryz.prog.cellsOf 27 = 1 := by kernel_rfl
theorem Zxy : Tryz.prog.cellsOf 28 = 1 := by kernel_rfl
theorem Zx8 : Tryz.prog.cellsOf 30 = 6 := by kernel_rfl
theorem ZoQ : pcs Tryz.prog 30 = some [(0, 25), (2, 26), (3, 27), (4, 28), (5, 28)] := by kernel_rfl
theorem Zyd : Tryz.prog.cellsOf 31 = 1 := by kernel_rfl
theorem Zl2 : Tryz.prog.cellsOf 32 = 1 := by kernel_rfl
theorem Zw5 : Tryz.prog.cellsOf 34 = 2 := by kernel_rfl
theorem ZoH : pcs Tryz.prog 34 = some [(0, 31), (1, 32)] := by kernel_rfl
theorem ZxA : Tryz.prog.cellsOf 41 = 1 := by kernel_rfl
theorem Zyy : Tryz.prog.cellsOf 42 = 1 := by kernel_rfl
theorem Zw6 : Tryz.prog.cellsOf 44 = 4 := by kernel_rfl
theorem ZqU : pcs Tryz.prog 44 = some [(0, 3), (1, 3), (2, 41), (3, 42)] := by kernel_rfl
theorem ZwV : Tryz.prog.cellsOf 49 = 3 := by kernel_rfl
theorem ZsC : pcs Tryz.prog 49 = some [(0, 3), (1, 3), (2, 3)] := by kernel_rfl
theorem Zxc : Tryz.prog.cellsOf 73 = 2 := by kernel_rfl
theorem Zti : pcs Tryz.prog 73 = some [(0, 3), (1, 4)] := by kernel_rfl
theorem Zwa : Tryz.prog.cellsOf 96 = 14 := by kernel_rfl
theorem ZrZ : pcs Tryz.prog 96 = some [(0, 9), (1, 3), (2, 3), (3, 3), (4, 32), (5, 3), (6, 3), (7, 3), (8, 3), (9, 3), (10, 3), (11, 3), (12, 3), (13, 3)] := by kernel_rfl
theorem Zsy : Tryz.prog.cellsOf 98 = 4 := by kernel_rfl
theorem Zw0 : pcs Tryz.prog 98 = some [(0, 3), (1, 3), (2, 3), (3, 3)] := by kernel_rfl
theorem Zrc : Tryz.prog.cellsOf 100 = 16 := by kernel_rfl
theorem Zj4 : pcs Tryz.prog 100 = some [(0, 9), (1, 32), (2, 98), (6, 98), (10, 3), (11, 3), (12, 3), (13, 3), (14, 3), (15, 4)] := by kernel_rfl
theorem Zrn : Tryz.prog.cellsOf 133 = 2 := by kernel_rfl
theorem Zjt : pcs Tryz.prog 133 = some [(0, 3), (1, 3)] := by kernel_rfl
theorem Ztv : Tryz.prog.cellsOf 134 = 1 := by kernel_rfl
theorem ZoE : Tryz.prog.cellsOf 136 = 6 := by kernel_rfl
theorem ZjK : pcs Tryz.prog 136 = some [(0, 3), (1, 3), (2, 3), (3, 3), (4, 134), (5, 134)] := by kernel_rfl
theorem Zto : Tryz.prog.cellsOf 149 = 2 := by kernel_rfl
theorem ZjJ : pcs Tryz.prog 149 = some [(0, 3), (1, 3)] := by kernel_rfl
set_option linter.unusedVariables false
set_option linter.unusedSimpArgs false
mutual
theorem ZfR {H : Type} : (d : DataW H) -> dsz d <= Rows.uptoBulk d
 | .lit l => by cases l <;> simp [dsz, Rows.uptoBulk]
 | .nil => by simp [dsz, Rows.uptoBulk]
 | .ptr d => by have := ZfR d; simp only [dsz, Rows.uptoBulk]; omega
 | .slice es sp => by have := Qb es; have := Qb sp; simp only [dsz, Rows.uptoBulk]; omega
 | .agg ps => by have := Qb ps; simp only [dsz, Rows.uptoBulk]; omega
 | .iface _ d => by have := ZfR d; simp only [dsz, Rows.uptoBulk]; omega
 | .map es => by simp only [dsz, Rows.uptoBulk]; omega
 | .held h => by simp [dsz, Rows.uptoBulk]
theorem Qb {H : Type} : (l : List (DataW H)) -> Ko l <= Rows.uptoBulkAll l
 | [] => by simp [Ko, Rows.uptoBulkAll]
 | d :: r => by have := ZfR d; have := Qb r; simp only [Ko, Rows.uptoBulkAll]; omega
end
theorem QS {H : Type} {l : List (DataW H)} (h : Rows.uptoSmall H l = true) : Ko l <= 1048576 := by
 have h1 := Qb l;have h2 : Rows.uptoBulkAll l <= 1048576 := of_decide_eq_true h;omega
abbrev I64 (n : Int) : Prop := -9223372036854775808 <= n /\ n <= 9223372036854775807
def eI (n : Int) : PV := .int .i64 n
def eB (b : Bool) : PV := .bool b
def eS (s : List UInt8) : PV := .str s
def eP (p : Int × Int) : PV := .agg [.int .i64 p.1, .int .i64 p.2]
@[go_sem] theorem ZA3 (n : Int) : eI n = .int .i64 n := Eq.trans rfl rfl
@[go_sem] theorem ZB7 (b : Bool) : eB b = .bool b := Eq.trans rfl rfl
@[go_sem] theorem ZBh (s : List UInt8) : eS s = .str s := Eq.trans rfl rfl
@[go_sem] theorem ZBB (p : Int × Int) : eP p = .agg [.int .i64 p.1, .int .i64 p.2] := Eq.trans rfl rfl
@[go_sem] theorem ZAL (l : List Int) : okE 1 (l.map eI) = true := UY fun _ => rfl
@[go_sem] theorem Zwn (l : List Bool) : Zgo 1 (l.map eB) = true := JN (f := eB) (S := 1) (fun _ => rfl) l
@[go_sem] theorem ZzH (l : List Bool) : okE 1 (l.map eB) = true := UY fun _ => rfl
theorem JX {B xs} (h : ∀ y ∈ xs, FitV Tryz.prog B 3 y) : ∃ l : List Int, xs = l.map eI /\ ∀ n ∈ l, I64 n :=
 XX (f := eI) fun y hy => by
  obtain ⟨n, rfl, w⟩ := ZeE Tryz.underlying3 (h y hy);exact ⟨n, rfl, ZJ w⟩
theorem ZfA {B xs} (h : ∀ y ∈ xs, FitV Tryz.prog B 4 y) : ∃ l : List Bool, xs = l.map eB /\ ∀ b ∈ l, True :=
 XX (f := eB) fun y hy => by
  obtain ⟨b, rfl⟩ := ZiM Tryz.underlying4 (h y hy);exact ⟨b, rfl, trivial⟩
theorem ZhG {B xs} (h : ∀ y ∈ xs, FitV Tryz.prog B 9 y) : ∃ l : List (List UInt8), xs = l.map eS /\ ∀ s ∈ l, s.length <= B :=
 XX (f := eS) fun y hy => by
  obtain ⟨s, rfl, w, _⟩ := Zlp Tryz.underlying9 (h y hy);exact ⟨s, rfl, w⟩
theorem Zpw {α : Type} {l : List α} (h : l.length = 2) : ∃ a0 a1, l = [a0, a1] := by
 match l, h with | [a0, a1], _ => exact ⟨a0, a1, rfl⟩
theorem Zz6 {α : Type} {l : List α} (h : l.length = 6) : ∃ a0 a1 a2 a3 a4 a5, l = [a0, a1, a2, a3, a4, a5] := by
 match l, h with | [a0, a1, a2, a3, a4, a5], _ => exact ⟨a0, a1, a2, a3, a4, a5, rfl⟩
theorem ZyL {α : Type} {l : List α} (h : l.length = 14) : ∃ a0 a1 a2 a3 a4 a5 a6 a7 a8 a9 a10 a11 a12 a13, l = [a0, a1, a2, a3, a4, a5, a6, a7, a8, a9, a10, a11, a12, a13] := by
 match l, h with | [a0, a1, a2, a3, a4, a5, a6, a7, a8, a9, a10, a11, a12, a13], _ => exact ⟨a0, a1, a2, a3, a4, a5, a6, a7, a8, a9, a10, a11, a12, a13, rfl⟩
theorem ZAH {α : Type} {l : List α} (h : l.length = 4) : ∃ a0 a1 a2 a3, l = [a0, a1, a2, a3] := by
 match l, h with | [a0, a1, a2, a3], _ => exact ⟨a0, a1, a2, a3, rfl⟩
theorem Zxg {α : Type} {l : List α} (h : l.length = 16) : ∃ a0 a1 a2 a3 a4 a5 a6 a7 a8 a9 a10 a11 a12 a13 a14 a15, l = [a0, a1, a2, a3, a4, a5, a6, a7, a8, a9, a10, a11, a12, a13, a14, a15] := by
 match l, h with | [a0, a1, a2, a3, a4, a5, a6, a7, a8, a9, a10, a11, a12, a13, a14, a15], _ => exact ⟨a0, a1, a2, a3, a4, a5, a6, a7, a8, a9, a10, a11, a12, a13, a14, a15, rfl⟩
structure Pt where
 t : Int
 a : Int
 deriving Inhabited
def cPt (x : Pt) : List PV := [.int .i64 x.t, .int .i64 x.a]
def ePt (x : Pt) : PV := .agg [.int .i64 x.t, .int .i64 x.a]
@[go_sem] theorem Zzh (x : Pt) : ePt x = .agg [.int .i64 x.t, .int .i64 x.a] := Eq.trans rfl rfl
def Pt.wf (B : Nat) (x : Pt) : Prop := I64 x.t /\ I64 x.a
theorem Zl3 {B m cs} (h : YS Tryz.prog B m 133 cs) : ∃ x : Pt, cs = cPt x /\ x.wf B := by
 obtain ⟨h1, m', h2⟩ := Xz Zjt Zrn h;obtain ⟨a0, a1, rfl⟩ := Zpw h1;obtain ⟨n0, e0, w0⟩ := Zs Tryz.underlying3 (h2 (0, 3) (by simp));obtain ⟨n1, e1, w1⟩ := Zs Tryz.underlying3 (h2 (1, 3) (by simp));simp [Zi0] at e0 e1;subst e0; subst e1;exact ⟨⟨n0, n1⟩, rfl, ZJ w0, ZJ w1⟩
theorem Zj0 {B v} (h : FitV Tryz.prog B 133 v) : ∃ x : Pt, v = ePt x /\ x.wf B := by
 obtain ⟨k, cs, h, e⟩ := h.out;obtain ⟨x, rfl, hw⟩ := Zl3 h;exact ⟨x, e.trans (by rw [Qj, if_pos (XB Zjt)]; rfl), hw⟩
structure Arc where
 src : Int
 dst : Int
 prof : Int
 miles : Int
 travel_c : Bool
 travel : List (Pt)
 slow_c : Bool
 slow : List (Pt)
 deriving Inhabited
def ZBD (x : Arc) : List PV := [.int .i64 x.src, .int .i64 x.dst, .int .i64 x.prof, .int .i64 x.miles, .list x.travel_c (x.travel.map ePt), .list x.slow_c (x.slow.map ePt)]
def Jg (x : Arc) : PV := .agg [.int .i64 x.src, .int .i64 x.dst, .int .i64 x.prof, .int .i64 x.miles, .list x.travel_c (x.travel.map ePt), .list x.slow_c (x.slow.map ePt)]
@[go_sem] theorem ZwE (x : Arc) : Jg x = .agg [.int .i64 x.src, .int .i64 x.dst, .int .i64 x.prof, .int .i64 x.miles, .list x.travel_c (x.travel.map ePt), .list x.slow_c (x.slow.map ePt)] := Eq.trans rfl rfl
def Arc.wf (B : Nat) (x : Arc) : Prop := I64 x.src /\ I64 x.dst /\ I64 x.prof /\ I64 x.miles /\ x.travel.length <= B /\ (∀ y ∈ x.travel, Pt.wf B y) /\ x.slow.length <= B /\ (∀ y ∈ x.slow, Pt.wf B y)
theorem ZiK {B m cs} (h : YS Tryz.prog B m 136 cs) : ∃ x : Arc, cs = ZBD x /\ x.wf B := by
 obtain ⟨h1, m', h2⟩ := Xz ZjK ZoE h;obtain ⟨a0, a1, a2, a3, a4, a5, rfl⟩ := Zz6 h1;obtain ⟨n0, e0, w0⟩ := Zs Tryz.underlying3 (h2 (0, 3) (by simp));obtain ⟨n1, e1, w1⟩ := Zs Tryz.underlying3 (h2 (1, 3) (by simp));obtain ⟨n2, e2, w2⟩ := Zs Tryz.underlying3 (h2 (2, 3) (by simp));obtain ⟨n3, e3, w3⟩ := Zs Tryz.underlying3 (h2 (3, 3) (by simp));obtain ⟨y4, e4, w4, _, z4⟩ := ZN Tryz.underlying134 (h2 (4, 134) (by simp));obtain ⟨n4, rfl, u4⟩ := XX (f := ePt) fun y hy => Zj0 (z4 y hy);obtain ⟨y5, e5, w5, _, z5⟩ := ZN Tryz.underlying134 (h2 (5, 134) (by simp))
 obtain ⟨n5, rfl, u5⟩ := XX (f := ePt) fun y hy => Zj0 (z5 y hy);simp [Ztv, Zi0] at e0 e1 e2 e3 e4 e5;subst e0; subst e1; subst e2; subst e3; subst e4; subst e5;exact ⟨⟨n0, n1, n2, n3, false, n4, false, n5⟩, rfl, ZJ w0, ZJ w1, ZJ w2, ZJ w3, by simpa using w4, u4, by simpa using w5, u5⟩
theorem Zkx {B v} (h : FitV Tryz.prog B 136 v) : ∃ x : Arc, v = Jg x /\ x.wf B := by
 obtain ⟨k, cs, h, e⟩ := h.out;obtain ⟨x, rfl, hw⟩ := ZiK h;exact ⟨x, e.trans (by rw [Qj, if_pos (XB ZjK)]; rfl), hw⟩
structure Net where
 places_c : Bool
 places : List (List UInt8)
 arcs_c : Bool
 arcs : List (Arc)
 deriving Inhabited
def ZzQ (x : Net) : List PV := [.list x.places_c (x.places.map eS), .list x.arcs_c (x.arcs.map Jg)]
def ZcU (x : Net) : PV := .agg [.list x.places_c (x.places.map eS), .list x.arcs_c (x.arcs.map Jg)]
@[go_sem] theorem Zv4 (x : Net) : ZcU x = .agg [.list x.places_c (x.places.map eS), .list x.arcs_c (x.arcs.map Jg)] := Eq.trans rfl rfl
def Net.wf (B : Nat) (x : Net) : Prop := x.places.length <= B /\ (∀ s ∈ x.places, s.length <= B) /\ x.arcs.length <= B /\ (∀ y ∈ x.arcs, Arc.wf B y)
theorem Zh5 {B m cs} (h : YS Tryz.prog B m 25 cs) : ∃ x : Net, cs = ZzQ x /\ x.wf B := by
 obtain ⟨h1, m', h2⟩ := Xz Zv0 Zou h;obtain ⟨a0, a1, rfl⟩ := Zpw h1;obtain ⟨y0, e0, w0, _, z0⟩ := ZN Tryz.underlying22 (h2 (0, 22) (by simp));obtain ⟨n0, rfl, u0⟩ := ZhG z0;obtain ⟨y1, e1, w1, _, z1⟩ := ZN Tryz.underlying23 (h2 (1, 23) (by simp));obtain ⟨n1, rfl, u1⟩ := XX (f := Jg) fun y hy => Zkx (z1 y hy);simp [ZwI, Zxl] at e0 e1;subst e0; subst e1;exact ⟨⟨false, n0, false, n1⟩, rfl, by simpa using w0, u0, by simpa using w1, u1⟩
structure Typ where
 name : List UInt8
 count : Int
 src : Int
 dst : Int
 cap_c : Bool
 cap : List (Int)
 skills : Int
 prof : Int
 opn : Int
 cls : Int
 drive : Int
 rest : Int
 fixed : Int
 perMile : Int
 perTick : Int
 deriving Inhabited
def ZBm (x : Typ) : List PV := [.str x.name, .int .i64 x.count, .int .i64 x.src, .int .i64 x.dst, .list x.cap_c (x.cap.map eI), .int .i64 x.skills, .int .i64 x.prof, .int .i64 x.opn, .int .i64 x.cls, .int .i64 x.drive, .int .i64 x.rest, .int .i64 x.fixed, .int .i64 x.perMile, .int .i64 x.perTick]
def QP (x : Typ) : PV := .agg [.str x.name, .int .i64 x.count, .int .i64 x.src, .int .i64 x.dst, .list x.cap_c (x.cap.map eI), .int .i64 x.skills, .int .i64 x.prof, .int .i64 x.opn, .int .i64 x.cls, .int .i64 x.drive, .int .i64 x.rest, .int .i64 x.fixed, .int .i64 x.perMile, .int .i64 x.perTick]
@[go_sem] theorem ZxM (x : Typ) : QP x = .agg [.str x.name, .int .i64 x.count, .int .i64 x.src, .int .i64 x.dst, .list x.cap_c (x.cap.map eI), .int .i64 x.skills, .int .i64 x.prof, .int .i64 x.opn, .int .i64 x.cls, .int .i64 x.drive, .int .i64 x.rest, .int .i64 x.fixed, .int .i64 x.perMile, .int .i64 x.perTick] := Eq.trans rfl rfl
def Typ.wf (B : Nat) (x : Typ) : Prop := x.name.length <= B /\ I64 x.count /\ I64 x.src /\ I64 x.dst /\ x.cap.length <= B /\ (∀ n ∈ x.cap, I64 n) /\ I64 x.skills /\ I64 x.prof /\ I64 x.opn /\ I64 x.cls /\ I64 x.drive /\ I64 x.rest /\ I64 x.fixed /\ I64 x.perMile /\ I64 x.perTick
theorem Zja {B m cs} (h : YS Tryz.prog B m 96 cs) : ∃ x : Typ, cs = ZBm x /\ x.wf B := by
 obtain ⟨h1, m', h2⟩ := Xz ZrZ Zwa h;obtain ⟨a0, a1, a2, a3, a4, a5, a6, a7, a8, a9, a10, a11, a12, a13, rfl⟩ := ZyL h1;obtain ⟨n0, e0, w0, _⟩ := JU Tryz.underlying9 (h2 (0, 9) (by simp));obtain ⟨n1, e1, w1⟩ := Zs Tryz.underlying3 (h2 (1, 3) (by simp));obtain ⟨n2, e2, w2⟩ := Zs Tryz.underlying3 (h2 (2, 3) (by simp));obtain ⟨n3, e3, w3⟩ := Zs Tryz.underlying3 (h2 (3, 3) (by simp));obtain ⟨y4, e4, w4, _, z4⟩ := ZN Tryz.underlying32 (h2 (4, 32) (by simp));obtain ⟨n4, rfl, u4⟩ := JX z4;obtain ⟨n5, e5, w5⟩ := Zs Tryz.underlying3 (h2 (5, 3) (by simp))
 obtain ⟨n6, e6, w6⟩ := Zs Tryz.underlying3 (h2 (6, 3) (by simp));obtain ⟨n7, e7, w7⟩ := Zs Tryz.underlying3 (h2 (7, 3) (by simp));obtain ⟨n8, e8, w8⟩ := Zs Tryz.underlying3 (h2 (8, 3) (by simp));obtain ⟨n9, e9, w9⟩ := Zs Tryz.underlying3 (h2 (9, 3) (by simp));obtain ⟨n10, e10, w10⟩ := Zs Tryz.underlying3 (h2 (10, 3) (by simp));obtain ⟨n11, e11, w11⟩ := Zs Tryz.underlying3 (h2 (11, 3) (by simp));obtain ⟨n12, e12, w12⟩ := Zs Tryz.underlying3 (h2 (12, 3) (by simp));obtain ⟨n13, e13, w13⟩ := Zs Tryz.underlying3 (h2 (13, 3) (by simp));simp [Zl2, Zi0, ZzA] at e0 e1 e2 e3 e4 e5 e6 e7 e8 e9 e10 e11 e12 e13
 subst e0; subst e1; subst e2; subst e3; subst e4; subst e5; subst e6; subst e7; subst e8; subst e9; subst e10; subst e11; subst e12; subst e13;exact ⟨⟨n0, n1, n2, n3, false, n4, n5, n6, n7, n8, n9, n10, n11, n12, n13⟩, rfl, w0, ZJ w1, ZJ w2, ZJ w3, by simpa using w4, u4, ZJ w5, ZJ w6, ZJ w7, ZJ w8, ZJ w9, ZJ w10, ZJ w11, ZJ w12, ZJ w13⟩
theorem Zmz {B v} (h : FitV Tryz.prog B 96 v) : ∃ x : Typ, v = QP x /\ x.wf B := by
 obtain ⟨k, cs, h, e⟩ := h.out;obtain ⟨x, rfl, hw⟩ := Zja h;exact ⟨x, e.trans (by rw [Qj, if_pos (XB ZrZ)]; rfl), hw⟩
structure Stp where
 place : Int
 opn : Int
 cls : Int
 serv : Int
 deriving Inhabited
def Zww (x : Stp) : List PV := [.int .i64 x.place, .int .i64 x.opn, .int .i64 x.cls, .int .i64 x.serv]
def ZhB (x : Stp) : PV := .agg [.int .i64 x.place, .int .i64 x.opn, .int .i64 x.cls, .int .i64 x.serv]
@[go_sem] theorem ZxT (x : Stp) : ZhB x = .agg [.int .i64 x.place, .int .i64 x.opn, .int .i64 x.cls, .int .i64 x.serv] := Eq.trans rfl rfl
def Stp.wf (B : Nat) (x : Stp) : Prop := I64 x.place /\ I64 x.opn /\ I64 x.cls /\ I64 x.serv
theorem ZcS {B m cs} (h : YS Tryz.prog B m 98 cs) : ∃ x : Stp, cs = Zww x /\ x.wf B := by
 obtain ⟨h1, m', h2⟩ := Xz Zw0 Zsy h;obtain ⟨a0, a1, a2, a3, rfl⟩ := ZAH h1;obtain ⟨n0, e0, w0⟩ := Zs Tryz.underlying3 (h2 (0, 3) (by simp));obtain ⟨n1, e1, w1⟩ := Zs Tryz.underlying3 (h2 (1, 3) (by simp));obtain ⟨n2, e2, w2⟩ := Zs Tryz.underlying3 (h2 (2, 3) (by simp));obtain ⟨n3, e3, w3⟩ := Zs Tryz.underlying3 (h2 (3, 3) (by simp));simp [Zi0] at e0 e1 e2 e3;subst e0; subst e1; subst e2; subst e3;exact ⟨⟨n0, n1, n2, n3⟩, rfl, ZJ w0, ZJ w1, ZJ w2, ZJ w3⟩
theorem Zsl {B v} (h : FitV Tryz.prog B 149 v) : ∃ x : Int × Int, v = eP x /\ I64 x.1 /\ I64 x.2 := by
 obtain ⟨k, cs, h, e⟩ := h.out;obtain ⟨h1, m', h2⟩ := Xz ZjJ Zto h;obtain ⟨a, b, rfl⟩ := Zpw h1;obtain ⟨n0, e0, w0⟩ := Zs Tryz.underlying3 (h2 (0, 3) (by simp));obtain ⟨n1, e1, w1⟩ := Zs Tryz.underlying3 (h2 (1, 3) (by simp));simp [Zi0] at e0 e1;subst e0; subst e1;exact ⟨(n0, n1), e.trans (by rw [Qj, if_pos (XB ZjJ)]; rfl), ZJ w0, ZJ w1⟩
structure Ord where
 name : List UInt8
 load_c : Bool
 load : List (Int)
 pick : Stp
 drp : Stp
 skills : Int
 penalty : Int
 split : Int
 last : Int
 now : Int
 off : Bool
 deriving Inhabited
def ZBv (x : Ord) : List PV := [.str x.name, .list x.load_c (x.load.map eI), .int .i64 x.pick.place, .int .i64 x.pick.opn, .int .i64 x.pick.cls, .int .i64 x.pick.serv, .int .i64 x.drp.place, .int .i64 x.drp.opn, .int .i64 x.drp.cls, .int .i64 x.drp.serv, .int .i64 x.skills, .int .i64 x.penalty, .int .i64 x.split, .int .i64 x.last, .int .i64 x.now, .bool x.off]
def QJ (x : Ord) : PV := .agg [.str x.name, .list x.load_c (x.load.map eI), .int .i64 x.pick.place, .int .i64 x.pick.opn, .int .i64 x.pick.cls, .int .i64 x.pick.serv, .int .i64 x.drp.place, .int .i64 x.drp.opn, .int .i64 x.drp.cls, .int .i64 x.drp.serv, .int .i64 x.skills, .int .i64 x.penalty, .int .i64 x.split, .int .i64 x.last, .int .i64 x.now, .bool x.off]
@[go_sem] theorem ZyT (x : Ord) : QJ x = .agg [.str x.name, .list x.load_c (x.load.map eI), .int .i64 x.pick.place, .int .i64 x.pick.opn, .int .i64 x.pick.cls, .int .i64 x.pick.serv, .int .i64 x.drp.place, .int .i64 x.drp.opn, .int .i64 x.drp.cls, .int .i64 x.drp.serv, .int .i64 x.skills, .int .i64 x.penalty, .int .i64 x.split, .int .i64 x.last, .int .i64 x.now, .bool x.off] := Eq.trans rfl rfl
def Ord.wf (B : Nat) (x : Ord) : Prop := x.name.length <= B /\ x.load.length <= B /\ (∀ n ∈ x.load, I64 n) /\ Stp.wf B x.pick /\ Stp.wf B x.drp /\ I64 x.skills /\ I64 x.penalty /\ I64 x.split /\ I64 x.last /\ I64 x.now
theorem Ziu {B m cs} (h : YS Tryz.prog B m 100 cs) : ∃ x : Ord, cs = ZBv x /\ x.wf B := by
 obtain ⟨h1, m', h2⟩ := Xz Zj4 Zrc h;obtain ⟨a0, a1, a2, a3, a4, a5, a6, a7, a8, a9, a10, a11, a12, a13, a14, a15, rfl⟩ := Zxg h1;obtain ⟨n0, e0, w0, _⟩ := JU Tryz.underlying9 (h2 (0, 9) (by simp));obtain ⟨y1, e1, w1, _, z1⟩ := ZN Tryz.underlying32 (h2 (1, 32) (by simp));obtain ⟨n1, rfl, u1⟩ := JX z1;obtain ⟨n2, e2, w2⟩ := ZcS (h2 (2, 98) (by simp));obtain ⟨n3, e3, w3⟩ := ZcS (h2 (6, 98) (by simp));obtain ⟨n4, e4, w4⟩ := Zs Tryz.underlying3 (h2 (10, 3) (by simp));obtain ⟨n5, e5, w5⟩ := Zs Tryz.underlying3 (h2 (11, 3) (by simp));obtain ⟨n6, e6, w6⟩ := Zs Tryz.underlying3 (h2 (12, 3) (by simp))
 obtain ⟨n7, e7, w7⟩ := Zs Tryz.underlying3 (h2 (13, 3) (by simp));obtain ⟨n8, e8, w8⟩ := Zs Tryz.underlying3 (h2 (14, 3) (by simp));obtain ⟨n9, e9⟩ := U4 Tryz.underlying4 (h2 (15, 4) (by simp));simp [Zl2, Zsy, Zy6, Zi0, ZzA, Zww, Zww] at e0 e1 e2 e3 e4 e5 e6 e7 e8 e9;subst e0; subst e1; obtain ⟨rfl, rfl, rfl, rfl⟩ := e2; obtain ⟨rfl, rfl, rfl, rfl⟩ := e3; subst e4; subst e5; subst e6; subst e7; subst e8; subst e9;exact ⟨⟨n0, false, n1, n2, n3, n4, n5, n6, n7, n8, n9⟩, rfl, w0, by simpa using w1, u1, w2, w3, ZJ w4, ZJ w5, ZJ w6, ZJ w7, ZJ w8⟩
theorem Zlc {B v} (h : FitV Tryz.prog B 100 v) : ∃ x : Ord, v = QJ x /\ x.wf B := by
 obtain ⟨k, cs, h, e⟩ := h.out;obtain ⟨x, rfl, hw⟩ := Ziu h;exact ⟨x, e.trans (by rw [Qj, if_pos (XB Zj4)]; rfl), hw⟩
structure Inst where
 net : Net
 types_c : Bool
 types : List (Typ)
 orders_c : Bool
 orders : List (Ord)
 apart_c : Bool
 apart : List (Int × Int)
 before_c : Bool
 before : List (Int × Int)
 deriving Inhabited
def ZwZ (x : Inst) : List PV := [.list x.net.places_c (x.net.places.map eS), .list x.net.arcs_c (x.net.arcs.map Jg), .list x.types_c (x.types.map QP), .list x.orders_c (x.orders.map QJ), .list x.apart_c (x.apart.map eP), .list x.before_c (x.before.map eP)]
def ZG (x : Inst) : PV := .agg [.list x.net.places_c (x.net.places.map eS), .list x.net.arcs_c (x.net.arcs.map Jg), .list x.types_c (x.types.map QP), .list x.orders_c (x.orders.map QJ), .list x.apart_c (x.apart.map eP), .list x.before_c (x.before.map eP)]
@[go_sem] theorem ZvI (x : Inst) : ZG x = .agg [.list x.net.places_c (x.net.places.map eS), .list x.net.arcs_c (x.net.arcs.map Jg), .list x.types_c (x.types.map QP), .list x.orders_c (x.orders.map QJ), .list x.apart_c (x.apart.map eP), .list x.before_c (x.before.map eP)] := Eq.trans rfl rfl
def Inst.wf (B : Nat) (x : Inst) : Prop := Net.wf B x.net /\ x.types.length <= B /\ (∀ y ∈ x.types, Typ.wf B y) /\ x.orders.length <= B /\ (∀ y ∈ x.orders, Ord.wf B y) /\ x.apart.length <= B /\ (∀ p ∈ x.apart, I64 p.1 /\ I64 p.2) /\ x.before.length <= B /\ (∀ p ∈ x.before, I64 p.1 /\ I64 p.2)
theorem Zgy {B m cs} (h : YS Tryz.prog B m 30 cs) : ∃ x : Inst, cs = ZwZ x /\ x.wf B := by
 obtain ⟨h1, m', h2⟩ := Xz ZoQ Zx8 h;obtain ⟨a0, a1, a2, a3, a4, a5, rfl⟩ := Zz6 h1;obtain ⟨n0, e0, w0⟩ := Zh5 (h2 (0, 25) (by simp));obtain ⟨y1, e1, w1, _, z1⟩ := ZN Tryz.underlying26 (h2 (2, 26) (by simp));obtain ⟨n1, rfl, u1⟩ := XX (f := QP) fun y hy => Zmz (z1 y hy);obtain ⟨y2, e2, w2, _, z2⟩ := ZN Tryz.underlying27 (h2 (3, 27) (by simp));obtain ⟨n2, rfl, u2⟩ := XX (f := QJ) fun y hy => Zlc (z2 y hy);obtain ⟨y3, e3, w3, _, z3⟩ := ZN Tryz.underlying28 (h2 (4, 28) (by simp));obtain ⟨n3, rfl, u3⟩ := XX (f := eP) fun y hy => Zsl (z3 y hy)
 obtain ⟨y4, e4, w4, _, z4⟩ := ZN Tryz.underlying28 (h2 (5, 28) (by simp));obtain ⟨n4, rfl, u4⟩ := XX (f := eP) fun y hy => Zsl (z4 y hy);simp [Zxy, Zwd, Zw9, Zou, ZzQ] at e0 e1 e2 e3 e4;obtain ⟨rfl, rfl⟩ := e0; subst e1; subst e2; subst e3; subst e4;exact ⟨⟨n0, false, n1, false, n2, false, n3, false, n4⟩, rfl, w0, by simpa using w1, u1, by simpa using w2, u2, by simpa using w3, u3, by simpa using w4, u4⟩
theorem ZbM {B v} (h : FitV Tryz.prog B 30 v) : ∃ x : Inst, v = ZG x /\ x.wf B := by
 obtain ⟨k, cs, h, e⟩ := h.out;obtain ⟨x, rfl, hw⟩ := Zgy h;exact ⟨x, e.trans (by rw [Qj, if_pos (XB ZoQ)]; rfl), hw⟩
structure Vis where
 order : Int
 drp : Bool
 deriving Inhabited
def ZBj (x : Vis) : List PV := [.int .i64 x.order, .bool x.drp]
def eVis (x : Vis) : PV := .agg [.int .i64 x.order, .bool x.drp]
@[go_sem] theorem Zgl (x : Vis) : eVis x = .agg [.int .i64 x.order, .bool x.drp] := Eq.trans rfl rfl
@[go_sem] theorem ZsG (l : List Vis) : Zgo 2 (l.map eVis) = true := JN (f := eVis) (S := 2) (fun _ => rfl) l
@[go_sem] theorem Zvu (l : List Vis) : okE 2 (l.map eVis) = true := UY fun _ => rfl
def Vis.wf (B : Nat) (x : Vis) : Prop := I64 x.order
theorem ZiJ {B m cs} (h : YS Tryz.prog B m 73 cs) : ∃ x : Vis, cs = ZBj x /\ x.wf B := by
 obtain ⟨h1, m', h2⟩ := Xz Zti Zxc h;obtain ⟨a0, a1, rfl⟩ := Zpw h1;obtain ⟨n0, e0, w0⟩ := Zs Tryz.underlying3 (h2 (0, 3) (by simp));obtain ⟨n1, e1⟩ := U4 Tryz.underlying4 (h2 (1, 4) (by simp));simp [Zy6, Zi0] at e0 e1;subst e0; subst e1;exact ⟨⟨n0, n1⟩, rfl, ZJ w0⟩
theorem ZlM {B v} (h : FitV Tryz.prog B 73 v) : ∃ x : Vis, v = eVis x /\ x.wf B := by
 obtain ⟨k, cs, h, e⟩ := h.out;obtain ⟨x, rfl, hw⟩ := ZiJ h;exact ⟨x, e.trans (by rw [Qj, if_pos (XB Zti)]; rfl), hw⟩
structure Rte where
 typ : Int
 start : Int
 rests_c : Bool
 rests : List (Bool)
 visits_c : Bool
 visits : List (Vis)
 deriving Inhabited
def ZB3 (x : Rte) : List PV := [.int .i64 x.typ, .int .i64 x.start, .list x.rests_c (x.rests.map eB), .list x.visits_c (x.visits.map eVis)]
def YZ (x : Rte) : PV := .agg [.int .i64 x.typ, .int .i64 x.start, .list x.rests_c (x.rests.map eB), .list x.visits_c (x.visits.map eVis)]
@[go_sem] theorem ZyN (x : Rte) : YZ x = .agg [.int .i64 x.typ, .int .i64 x.start, .list x.rests_c (x.rests.map eB), .list x.visits_c (x.visits.map eVis)] := Eq.trans rfl rfl
def Rte.wf (B : Nat) (x : Rte) : Prop := I64 x.typ /\ I64 x.start /\ x.rests.length <= B /\ (∀ b ∈ x.rests, True) /\ x.visits.length <= B /\ (∀ y ∈ x.visits, Vis.wf B y)
theorem Zjh {B m cs} (h : YS Tryz.prog B m 44 cs) : ∃ x : Rte, cs = ZB3 x /\ x.wf B := by
 obtain ⟨h1, m', h2⟩ := Xz ZqU Zw6 h;obtain ⟨a0, a1, a2, a3, rfl⟩ := ZAH h1;obtain ⟨n0, e0, w0⟩ := Zs Tryz.underlying3 (h2 (0, 3) (by simp));obtain ⟨n1, e1, w1⟩ := Zs Tryz.underlying3 (h2 (1, 3) (by simp));obtain ⟨y2, e2, w2, _, z2⟩ := ZN Tryz.underlying41 (h2 (2, 41) (by simp));obtain ⟨n2, rfl, u2⟩ := ZfA z2;obtain ⟨y3, e3, w3, _, z3⟩ := ZN Tryz.underlying42 (h2 (3, 42) (by simp));obtain ⟨n3, rfl, u3⟩ := XX (f := eVis) fun y hy => ZlM (z3 y hy);simp [Zyy, ZxA, Zi0] at e0 e1 e2 e3;subst e0; subst e1; subst e2; subst e3;exact ⟨⟨n0, n1, false, n2, false, n3⟩, rfl, ZJ w0, ZJ w1, by simpa using w2, u2, by simpa using w3, u3⟩
theorem ZkG {B v} (h : FitV Tryz.prog B 44 v) : ∃ x : Rte, v = YZ x /\ x.wf B := by
 obtain ⟨k, cs, h, e⟩ := h.out;obtain ⟨x, rfl, hw⟩ := Zjh h;exact ⟨x, e.trans (by rw [Qj, if_pos (XB ZqU)]; rfl), hw⟩
structure Tim where
 arr : Int
 beg : Int
 dep : Int
 rest : Bool
 deriving Inhabited
def eTim (x : Tim) : PV := .agg [.int .i64 x.arr, .int .i64 x.beg, .int .i64 x.dep, .bool x.rest]
@[go_sem] theorem Zwm (x : Tim) : eTim x = .agg [.int .i64 x.arr, .int .i64 x.beg, .int .i64 x.dep, .bool x.rest] := Eq.trans rfl rfl
@[go_sem] theorem Zt3 (l : List Tim) : okE 4 (l.map eTim) = true := UY fun _ => rfl
structure She where
 rest : Bool
 dep : Int
 times_c : Bool
 times : List (Tim)
 fin : Int
 miles : Int
 deriving Inhabited
def ZgD (x : She) : PV := .agg [.bool x.rest, .int .i64 x.dep, .list x.times_c (x.times.map eTim), .int .i64 x.fin, .int .i64 x.miles]
@[go_sem] theorem Zyi (x : She) : ZgD x = .agg [.bool x.rest, .int .i64 x.dep, .list x.times_c (x.times.map eTim), .int .i64 x.fin, .int .i64 x.miles] := Eq.trans rfl rfl
structure Sco where
 cost : Int
 moved : Int
 other : Int
 work : Int
 deriving Inhabited
def ZeT (x : Sco) : PV := .agg [.int .i64 x.cost, .int .i64 x.moved, .int .i64 x.other, .int .i64 x.work]
@[go_sem] theorem Zx2 (x : Sco) : ZeT x = .agg [.int .i64 x.cost, .int .i64 x.moved, .int .i64 x.other, .int .i64 x.work] := Eq.trans rfl rfl
structure Pln where
 routes_c : Bool
 routes : List (Rte)
 unserved_c : Bool
 unserved : List (Int)
 deriving Inhabited
def ZBW (x : Pln) : List PV := [.list x.routes_c (x.routes.map YZ), .list x.unserved_c (x.unserved.map eI)]
def ZaI (x : Pln) : PV := .agg [.list x.routes_c (x.routes.map YZ), .list x.unserved_c (x.unserved.map eI)]
@[go_sem] theorem ZwL (x : Pln) : ZaI x = .agg [.list x.routes_c (x.routes.map YZ), .list x.unserved_c (x.unserved.map eI)] := Eq.trans rfl rfl
def Pln.wf (B : Nat) (x : Pln) : Prop := x.routes.length <= B /\ (∀ y ∈ x.routes, Rte.wf B y) /\ x.unserved.length <= B /\ (∀ n ∈ x.unserved, I64 n)
theorem Zi1 {B m cs} (h : YS Tryz.prog B m 34 cs) : ∃ x : Pln, cs = ZBW x /\ x.wf B := by
 obtain ⟨h1, m', h2⟩ := Xz ZoH Zw5 h;obtain ⟨a0, a1, rfl⟩ := Zpw h1;obtain ⟨y0, e0, w0, _, z0⟩ := ZN Tryz.underlying31 (h2 (0, 31) (by simp));obtain ⟨n0, rfl, u0⟩ := XX (f := YZ) fun y hy => ZkG (z0 y hy);obtain ⟨y1, e1, w1, _, z1⟩ := ZN Tryz.underlying32 (h2 (1, 32) (by simp));obtain ⟨n1, rfl, u1⟩ := JX z1;simp [Zyd, Zl2] at e0 e1;subst e0; subst e1;exact ⟨⟨false, n0, false, n1⟩, rfl, by simpa using w0, u0, by simpa using w1, u1⟩
theorem Zfs {B v} (h : FitV Tryz.prog B 34 v) : ∃ x : Pln, v = ZaI x /\ x.wf B := by
 obtain ⟨k, cs, h, e⟩ := h.out;obtain ⟨x, rfl, hw⟩ := Zi1 h;exact ⟨x, e.trans (by rw [Qj, if_pos (XB ZoH)]; rfl), hw⟩
theorem own : ownKnob Tryz.prog.godebug = none := by kernel_rfl
theorem Zfc : laidOutB Tryz.prog = true := by kernel_rfl
abbrev Flt := Int × List UInt8
def eF (f : Flt) : PV := .agg [.int .i64 f.1, .str f.2]
@[go_sem] theorem ZBL (f : Flt) : eF f = .agg [.int .i64 f.1, .str f.2] := Eq.trans rfl rfl
@[go_sem] theorem ZAj (l : List Flt) : okE 2 (l.map eF) = true := UY fun _ => rfl
def dec (n : Nat) : List UInt8 := if h : n < 10 then [UInt8.ofNat (48 + n)] else dec (n / 10) ++ [UInt8.ofNat (48 + n % 10)]
termination_by n
decreasing_by omega
theorem Zfd : ∀ (k n : Nat), n < k -> (dec n).length <= n + 1 := by
 intro k
 induction k with
 | zero => intro n h; omega
 | succ k ih =>
  intro n h;rw [dec]
  split
  ·simp
  ·have := ih (n / 10) (by omega);simp;omega
theorem V2 : ∀ (d n : Nat), n < 10 ^ (d + 1) -> (dec n).length <= d + 1 := by
 intro d
 induction d with
 | zero => intro n h; rw [dec, dif_pos (by omega)]; simp
 | succ d ih =>
  intro n h;rw [dec]
  split
  ·simp
  ·have := ih (n / 10) (by rw [Nat.div_lt_iff_lt_mul (by omega)]; rw [Nat.pow_succ] at h; exact h);simp;omega
def ZaH (n : Int) : List UInt8 := if n < 0 then 45 :: dec n.natAbs else dec n.natAbs
theorem Ww (n : Int) (h : I64 n) : (ZaH n).length <= 20 := by
 have h1 : n.natAbs < 10 ^ (18 + 1) := by omega
 have := V2 18 n.natAbs h1;unfold ZaH
 split <;> simp <;> omega
structure FR {α : Type} (p : α -> Prop) (C : Prop) (b : Nat) (l : List α) : Prop where
 len : l.length <= b
 emp : l = [] ↔ C
 all : ∀ x ∈ l, p x
theorem FR.nil {α : Type} {p : α -> Prop} {C : Prop} {b : Nat} (h : C) : FR p C b [] := ⟨by simp, by simp [h], by simp⟩
theorem FR.no {α : Type} {p : α -> Prop} {C c : Prop} {b : Nat} {l : List α} (h : FR p C b l) (hc : c) : FR p (C /\ c) (b + 1) l := ⟨by have := h.len; omega, by rw [h.emp]; simp [hc], h.all⟩
theorem FR.yes {α : Type} {p : α -> Prop} {C c : Prop} {b : Nat} {l : List α} {x : α} (h : FR p C b l) (hc : ¬ c) (hx : p x) : FR p (C /\ c) (b + 1) (l ++ [x]) :=
 ⟨by have := h.len; simp; omega, by simp [hc], fun y hy => by
  rcases List.mem_append.1 hy with hy | hy
  ·exact h.all y hy
  ·simp at hy; subst hy; exact hx⟩
theorem FR.app {α : Type} {p : α -> Prop} {C D : Prop} {b d : Nat} {l m : List α} (h : FR p C b l) (k : FR p D d m) : FR p (C /\ D) (b + d) (l ++ m) :=
 ⟨by have := h.len; have := k.len; simp; omega, by rw [List.append_eq_nil_iff, h.emp, k.emp], fun y hy => by
  rcases List.mem_append.1 hy with hy | hy
  ·exact h.all y hy
  ·exact k.all y hy⟩
theorem FR.to {α : Type} {p : α -> Prop} {C D : Prop} {b d : Nat} {l : List α} (h : FR p C b l) (hb : b <= d) (hc : C ↔ D) : FR p D d l := ⟨Nat.le_trans h.len hb, h.emp.trans hc, h.all⟩
theorem Zh {p : Nat -> Prop} {k : Nat} : (∀ j, j < k + 1 -> p j) ↔ ((∀ j, j < k -> p j) /\ p k) :=
 ⟨fun h => ⟨fun j hj => h j (by omega), h k (by omega)⟩, fun h j hj => by
  rcases Nat.lt_or_ge j k with h1 | h1
  ·exact h.1 j h1
  ·have : j = k := by omega
   rw [this]; exact h.2⟩
def We (c : UInt8) : Bool := decide (48 <= c.toNat /\ c.toNat <= 57)
def YX (c : UInt8) : Bool := decide (97 <= c.toNat /\ c.toNat <= 122) || decide (65 <= c.toNat /\ c.toNat <= 90) || decide (c.toNat = 95)
def nameOk (s : List UInt8) : Bool := decide (1 <= s.length) && decide (s.length <= 16) && !We (nth s 0) && s.all fun c => YX c || We c
def rng (n lo hi : Int) : Bool := decide (lo <= n /\ n <= hi)
def ZhS (n : Int) : Bool := rng n 0 4096
def ZmQ (l : List Pt) (i : Nat) : Prop := (0 <= (nth l i).t /\ (nth l i).t <= 4096 /\ (nth l i).t <= (nth l i).a /\ (nth l i).a <= (nth l i).t + 4096) /\ (0 < i -> (nth l (i - 1)).t < (nth l i).t /\ (nth l (i - 1)).a <= (nth l i).a)
def YB (l : List Pt) : Prop := (1 <= l.length /\ l.length <= 16) /\ ∀ i, i < l.length -> ZmQ l i
def Vm (l : List Pt) (i : Nat) : Prop := ZhS (nth l i).t = true /\ ZhS (nth l i).a = true /\ (0 < i -> (nth l (i - 1)).t < (nth l i).t)
def ZcZ (n : Net) (i : Nat) : Prop :=
 ((((((0 <= (nth n.arcs i).src /\ (nth n.arcs i).src < n.places.length /\ 0 <= (nth n.arcs i).dst /\ (nth n.arcs i).dst < n.places.length) /\
 (0 <= (nth n.arcs i).prof /\ (nth n.arcs i).prof <= 7 /\ 0 <= (nth n.arcs i).miles /\ (nth n.arcs i).miles <= 10000 /\ (nth n.arcs i).src ≠ (nth n.arcs i).dst)) /\
 (∀ k, k < i -> ¬ ((nth n.arcs i).src = (nth n.arcs k).src /\ (nth n.arcs i).dst = (nth n.arcs k).dst /\ (nth n.arcs i).prof = (nth n.arcs k).prof))) /\
 YB (nth n.arcs i).travel) /\ (nth n.arcs i).slow.length <= 16) /\ ∀ k, k < (nth n.arcs i).slow.length -> Vm (nth n.arcs i).slow k)
def ZjA (n : Net) (i : Nat) : Prop := nameOk (nth n.places i) = true /\ ∀ k, k < i -> nth n.places k ≠ nth n.places i
def VE (n : Net) : Prop := n.places.length <= 24 /\ ∀ i, i < n.places.length -> ZjA n i
def netOk (n : Net) : Prop := (VE n /\ n.arcs.length <= 1024) /\ ∀ i, i < n.arcs.length -> ZcZ n i
set_option maxRecDepth 8000
set_option maxHeartbeats 4000000
theorem Zee (c : UInt8) : PC 278 [.p (.int .u8 (c.toNat : Nat))] (.bool (We c)) := by
 refine Za Tryz.func278 rfl ZrC ?_;simp (disch := omega) only [Tryz.f278, go_sem, seval];refine gT ?_ ?_ <;> intro h <;> simp (disch := omega) only [Sh.out h, go_sem, seval]
 all_goals (simp [We]; first | done | omega | (rw [Bool.eq_iff_iff]; simp; omega))
theorem Zji (c : UInt8) : PC 279 [.p (.int .u8 (c.toNat : Nat))] (.bool (YX c)) := by
 refine Za Tryz.func279 rfl Zqo ?_;simp (disch := omega) only [Tryz.f279, go_sem, seval]
 repeat' (first | (refine ZR (fun hq => ?_) (fun hq => ?_) <;> (try simp only [decide_eq_true_eq, decide_eq_false_iff_not, Classical.not_not] at hq) <;> simp (disch := omega) only [Sh.out hq, go_sem, seval]) | (refine ZS (fun hq => ?_) (fun hq => ?_) <;> (try simp only [decide_eq_true_eq, decide_eq_false_iff_not, Classical.not_not] at hq) <;> simp (disch := omega) only [Sh.out hq, go_sem, seval]) | (refine Xc (fun hq => ?_) (fun hq => ?_) <;> (try simp only [decide_eq_true_eq, decide_eq_false_iff_not, Classical.not_not] at hq) <;> simp (disch := omega) only [Sh.out hq, go_sem, seval]))
 all_goals (simp [YX]; first | done | omega | (rw [Bool.eq_iff_iff]; simp; omega))
theorem ZeH (s : List UInt8) (hs : s.length <= 1048576) : PC 202 [.p (.str s)] (.bool (nameOk s)) := by
 refine Za Tryz.func202 rfl Zpq ?_;simp (disch := omega) only [Tryz.f202, go_sem, seval];refine gF ?_ ?_ <;> intro h <;> simp (disch := omega) only [Sh.out h, go_sem, seval]
 ·have : ¬ 1 <= s.length := by omega
  simp [nameOk, this]
 ·refine gF ?_ ?_ <;> intro h2 <;> simp (disch := omega) only [Sh.out h2, go_sem, seval]
  ·have : ¬ s.length <= 16 := by omega
   simp [nameOk, this]
  ·have g1 : 1 <= s.length := by omega
   have g2 : s.length <= 16 := by omega
   refine (Zee (nth s 0)).use ?_;simp (disch := omega) only [go_sem, seval];refine cD ?_ ?_ <;> intro h3 <;> simp (disch := omega) only [Sh.out h3, go_sem, seval]
   ·simp [nameOk, h3]
   ·refine Zf [0] (fun k : Nat => [(3, .p (.int .i64 k))]) (fun _ => []) (fun k => k <= s.length /\ ∀ j, j < k -> (YX (nth s j) || We (nth s j)) = true) (fun k => s.length - k) 0 (by simp) (Weak.mk ?_) ?_
    ·simp (disch := omega) only [go_sem, seval]
    ·rintro k ⟨hk, hno⟩;simp (disch := omega) only [go_sem, seval]
     have XC : ∀ j, j < s.length -> (YX (nth s j) || We (nth s j)) = false -> nameOk s = false := fun j hj e => by
      have : s.all (fun c => YX c || We c) = false := by
       rw [List.all_eq_false];exact ⟨nth s j, by rw [Ze hj]; exact List.getElem_mem _, by rw [e]; simp⟩
      simp [nameOk, this]
     refine cD ?_ ?_ <;> intro h4 <;> simp (disch := omega) only [Sh.out h4, go_sem, seval]
     ·have hk2 : k < s.length := by omega
      refine (Zji (nth s k)).use ?_;simp (disch := omega) only [go_sem, seval];refine gT ?_ ?_ <;> intro h5 <;> simp (disch := omega) only [Sh.out h5, go_sem, seval]
      ·refine (Zee (nth s k)).use ?_;simp (disch := omega) only [go_sem, seval];refine cD ?_ ?_ <;> intro h6 <;> simp (disch := omega) only [Sh.out h6, go_sem, seval]
       ·simp only [Bool.not_eq_true'] at h5 h6;rw [XC k hk2 (by rw [h5, h6]; rfl)]
       ·simp only [Bool.not_eq_false'] at h6;exact ⟨k + 1, ⟨by omega, Zh.2 ⟨hno, by simp [h6]⟩⟩, by omega, wk⟩
      ·simp only [Bool.not_eq_false'] at h5;exact ⟨k + 1, ⟨by omega, Zh.2 ⟨hno, by simp [h5]⟩⟩, by omega, wk⟩
     ·have : s.all (fun c => YX c || We c) = true := by
       rw [List.all_eq_true];intro c hc;obtain ⟨j, hj, rfl⟩ := List.mem_iff_getElem.1 hc;rw [<- Ze hj]; exact hno j (by omega)
      simp [nameOk, g1, g2, h3, this]
theorem V5 (n : Int) (hn : I64 n) : PC 147 [.p (.int .i64 n)] (.str (ZaH n)) := by
 refine Za Tryz.func147 rfl ZsT ?_;simp (disch := omega) only [Tryz.f147, go_sem, seval]
 have h19 : n.natAbs < 10 ^ (18 + 1) := by omega
 have hdl := V2 18 n.natAbs h19
 refine ZY [7] [0] (fun q : Int × List UInt8 × Bool => [(3, .p (.str q.2.1)), (4, .p (.int .i64 q.1)), (5, .p (.bool q.2.2))]) (fun _ => [])
  (fun q => I64 q.1 /\ (q.2.2 = true -> dec q.1.natAbs ++ q.2.1 = dec n.natAbs) /\ (q.2.2 = false -> q.2.1 = dec n.natAbs)) (fun q => if q.2.2 then q.1.natAbs + 1 else 0) (n, [], true) (by simp; omega) (Weak.mk ?_) ?_
 ·simp (disch := omega) only [go_sem, seval]
 ·rintro ⟨m, s, again⟩ ⟨hm, h1, h2⟩;simp only at hm h1 h2;simp (disch := omega) only [go_sem, seval]
  cases again with
  | false =>
   simp (disch := omega) only [go_sem, seval];have h2 := h2 rfl
   have hl2 : ([45] : List UInt8).length + (dec n.natAbs).length <= 9223372036854775807 := by simp; omega
   refine cD ?_ ?_ <;> intro h3 <;> simp (disch := omega) only [Sh.out h3, go_sem, seval]
   ·simp (disch := omega) only [ZaH, h2, h3, ZhW hl2, go_sem, seval]
   ·simp (disch := omega) only [ZaH, h2, h3, go_sem, seval]
  | true =>
   have h1 := h1 rfl
   have hls : (dec m.natAbs).length + s.length = (dec n.natAbs).length := by rw [<- h1]; simp
   simp (disch := omega) only [go_sem, seval]
   have e1 : (m.tmod 10).natAbs = m.natAbs % 10 := by rw [Int.natAbs_tmod]; rfl
   have e2 : (m.tdiv 10).natAbs = m.natAbs / 10 := by rw [Int.natAbs_tdiv]; rfl
   have e3 : m.tmod 10 < 10 /\ -10 < m.tmod 10 := ⟨Int.tmod_lt_of_pos _ (by decide), by omega⟩;refine Zq [0, 3, 4] (fun _ : Unit => [(6, .p (.int .i64 ((m.natAbs % 10 : Nat) : Int)))]) (fun _ => []) (fun _ => True) ?_ ?_
   ·simp (disch := omega) only [go_sem, seval];refine cD ?_ ?_ <;> intro h3 <;> simp (disch := omega) only [Sh.out h3, go_sem, seval]
    ·exact ⟨(), Weak.mk (by simp (disch := omega) only [go_sem, seval]; simp; omega)⟩
    ·exact ⟨(), Weak.mk (by simp (disch := omega) only [go_sem, seval]; simp; omega)⟩
   ·intro _ _;refine Zd [] _ _ _ _ ?_;simp (disch := first | omega | (simp only [List.length_cons, List.length_nil, List.length_append, List.length_map, List.length_take, List.length_drop] <;> omega)) only [go_sem, seval]
    have e4 : (48 + ((m.natAbs % 10 : Nat) : Int)).toNat = 48 + m.natAbs % 10 := by omega
    refine ⟨(m.tdiv 10, UInt8.ofNat (48 + m.natAbs % 10) :: s, decide (m.tdiv 10 ≠ 0)), ⟨?_, ?_, ?_⟩, ?_, Weak.mk ?_⟩
    ·simp only; omega
    ·simp only [decide_eq_true_eq];intro hne
     have h10 : ¬ m.natAbs < 10 := by omega
     rw [e2, <- h1, dec.eq_def m.natAbs, dif_neg h10];simp
    ·simp only [decide_eq_false_iff_not, Classical.not_not];intro hz
     have h10 : m.natAbs < 10 := by omega
     rw [<- h1, dec.eq_def m.natAbs, dif_pos h10, Nat.mod_eq_of_lt h10];simp
    ·simp only [if_true]
     split
     ·rename_i hne;simp only [decide_eq_true_eq] at hne;omega
     ·omega
    ·simp (disch := omega) only [e4, go_sem, seval]
def pF (k : Nat) (f : Flt) : Prop := f.2.length <= k
theorem Zjx (l : List Pt) (c : Bool) (hl : l.length <= 1048576) : ACalls Tryz.prog 203 [.p (.list c (l.map ePt))] [] fun x H' => ∃ m : List Flt, FR (pF 20) (YB l) (2 * l.length + 1) m /\ x = .sl 0 0 m.length m.length /\ H' = [.elems 2 (m.map eF)] := by
 refine ZB [2] Tryz.func203 rfl Zrb ?_;simp (disch := omega) only [Tryz.f203, go_sem, seval];refine Zn (Weak.ofNil 3 2 (by simp (disch := omega) only [go_sem, seval]) (by simp) (Weak.refl _ _ _)) ?_;refine Zq [0] (fun m : List Flt => [(3, .sl 0 0 m.length m.length)]) (fun m => [.elems 2 (m.map eF)]) (fun m => FR (pF 20) (1 <= l.length /\ l.length <= 16) 1 m) ?_ ?_
 ·simp (disch := omega) only [go_sem, seval]
  repeat' (first | (refine ZR (fun hq => ?_) (fun hq => ?_) <;> (try simp only [decide_eq_true_eq, decide_eq_false_iff_not, Classical.not_not] at hq) <;> simp (disch := omega) only [Sh.out hq, go_sem, seval]) | (refine ZS (fun hq => ?_) (fun hq => ?_) <;> (try simp only [decide_eq_true_eq, decide_eq_false_iff_not, Classical.not_not] at hq) <;> simp (disch := omega) only [Sh.out hq, go_sem, seval]) | (refine Xc (fun hq => ?_) (fun hq => ?_) <;> (try simp only [decide_eq_true_eq, decide_eq_false_iff_not, Classical.not_not] at hq) <;> simp (disch := omega) only [Sh.out hq, go_sem, seval]))
  ·exact ⟨[(4, [])], ⟨by simp, by simp; omega, by simp [pF]⟩, wk⟩
  ·exact ⟨[(4, [])], ⟨by simp, by simp; omega, by simp [pF]⟩, wk⟩
  ·exact ⟨[], FR.nil (by omega), wk⟩
 ·intro m hm;refine Zd [] _ _ _ _ ?_;simp (disch := omega) only [go_sem, seval];refine ZY [8] [0] (fun q : Nat × List Flt => [(3, .sl 0 0 q.2.length q.2.length), (4, .p (.int .i64 q.1))]) (fun q => [.elems 2 (q.2.map eF)]) (fun q => q.1 <= l.length /\ FR (pF 20) ((1 <= l.length /\ l.length <= 16) /\ ∀ j, j < q.1 -> ZmQ l j) (2 * q.1 + 1) q.2) (fun q => l.length - q.1) (0, m) ⟨by simp, hm.to (by simp) (by simp)⟩ (Weak.mk ?_) ?_
  ·simp (disch := omega) only [go_sem, seval]
  ·rintro ⟨k, m⟩ ⟨hk, hm⟩;simp only at hk hm;have hml := hm.len;simp (disch := omega) only [go_sem, seval];refine cD ?_ ?_ <;> intro h <;> simp (disch := omega) only [Sh.out h, go_sem, seval]
   ·have hk2 : k < l.length := by omega
    refine Zq [0, 4, 5] (fun m : List Flt => [(3, .sl 0 0 m.length m.length)]) (fun m => [.elems 2 (m.map eF), .cells [.p (.int .i64 (nth l k).t), .p (.int .i64 (nth l k).a)]])
     (fun m => FR (pF 20) (((1 <= l.length /\ l.length <= 16) /\ ∀ j, j < k -> ZmQ l j) /\ (0 <= (nth l k).t /\ (nth l k).t <= 4096 /\ (nth l k).t <= (nth l k).a /\ (nth l k).a <= (nth l k).t + 4096)) (2 * k + 1 + 1) m) ?_ ?_
    ·simp (disch := omega) only [go_sem, seval]
     have hI : I64 (k : Int) := by omega
     have hdl := Ww k hI
     repeat' (first | (refine ZR (fun hq => ?_) (fun hq => ?_) <;> (try simp only [decide_eq_true_eq, decide_eq_false_iff_not, Classical.not_not] at hq) <;> simp (disch := omega) only [Sh.out hq, go_sem, seval]) | (refine ZS (fun hq => ?_) (fun hq => ?_) <;> (try simp only [decide_eq_true_eq, decide_eq_false_iff_not, Classical.not_not] at hq) <;> simp (disch := omega) only [Sh.out hq, go_sem, seval]) | (refine Xc (fun hq => ?_) (fun hq => ?_) <;> (try simp only [decide_eq_true_eq, decide_eq_false_iff_not, Classical.not_not] at hq) <;> simp (disch := omega) only [Sh.out hq, go_sem, seval]))
     all_goals try exact ⟨m, hm.no (by omega), wk⟩
     all_goals
      refine (V5 k hI).use ?_;simp (disch := omega) only [go_sem, seval];exact ⟨m ++ [(2, ZaH k)], hm.yes (by omega) (by simp only [pF]; omega), wk⟩
    ·intro m hm;have hml := hm.len;refine Zd [] _ _ _ _ ?_;simp (disch := omega) only [go_sem, seval]
     have hI : I64 (k : Int) := by omega
     have hdl := Ww k hI;refine Zi mixed (by kernel_rfl) (by kernel_rfl) ?_;simp (disch := omega) only [go_sem, seval]
     repeat' (first | (refine ZR (fun hq => ?_) (fun hq => ?_) <;> (try simp only [decide_eq_true_eq, decide_eq_false_iff_not, Classical.not_not] at hq) <;> simp (disch := omega) only [Sh.out hq, go_sem, seval]) | (refine ZS (fun hq => ?_) (fun hq => ?_) <;> (try simp only [decide_eq_true_eq, decide_eq_false_iff_not, Classical.not_not] at hq) <;> simp (disch := omega) only [Sh.out hq, go_sem, seval]) | (refine Xc (fun hq => ?_) (fun hq => ?_) <;> (try simp only [decide_eq_true_eq, decide_eq_false_iff_not, Classical.not_not] at hq) <;> simp (disch := omega) only [Sh.out hq, go_sem, seval]))
     all_goals try exact ⟨(k + 1, m), ⟨by simp only; omega, (hm.no (c := 0 < k -> (nth l (k - 1)).t < (nth l k).t /\ (nth l (k - 1)).a <= (nth l k).a) (by omega)).to (by simp only; omega) (by simp only [Zh, ZmQ, and_assoc])⟩, by simp only; omega, wk⟩
     all_goals
      refine (V5 k hI).use ?_;simp (disch := omega) only [go_sem, seval];exact ⟨(k + 1, m ++ [(13, ZaH k)]), ⟨by simp only; omega, (hm.yes (c := 0 < k -> (nth l (k - 1)).t < (nth l k).t /\ (nth l (k - 1)).a <= (nth l k).a) (by omega) (by simp only [pF]; omega)).to (by simp only; omega) (by simp only [Zh, ZmQ, and_assoc])⟩, by simp only; omega, wk⟩
   ·have hkn : k = l.length := by omega
    subst hkn;exact ⟨m, hm.to (by omega) (by rw [YB]), 0, by simp (disch := omega) only [go_sem, seval]⟩
set_option maxHeartbeats 8000000
theorem pF.mono {j k : Nat} (h : j <= k) {f : Flt} (hf : pF j f) : pF k f := Nat.le_trans hf h
theorem FR.pmono {α : Type} {p q : α -> Prop} {C : Prop} {b : Nat} {l : List α} (h : FR p C b l) (hp : ∀ x, p x -> q x) : FR q C b l := ⟨h.len, h.emp, fun x hx => hp x (h.all x hx)⟩
theorem Zb9 (n : Int) : PC 204 [.p (.int .i64 n)] (.bool (ZhS n)) := by
 refine Za Tryz.func204 rfl ZpV ?_;simp (disch := omega) only [Tryz.f204, go_sem, seval]
 repeat' (first | (refine ZR (fun hq => ?_) (fun hq => ?_) <;> (try simp only [decide_eq_true_eq, decide_eq_false_iff_not, Classical.not_not] at hq) <;> simp (disch := omega) only [Sh.out hq, go_sem, seval]) | (refine ZS (fun hq => ?_) (fun hq => ?_) <;> (try simp only [decide_eq_true_eq, decide_eq_false_iff_not, Classical.not_not] at hq) <;> simp (disch := omega) only [Sh.out hq, go_sem, seval]) | (refine Xc (fun hq => ?_) (fun hq => ?_) <;> (try simp only [decide_eq_true_eq, decide_eq_false_iff_not, Classical.not_not] at hq) <;> simp (disch := omega) only [Sh.out hq, go_sem, seval]))
 all_goals (simp [ZhS, rng]; first | done | omega | (rw [Bool.eq_iff_iff]; simp; omega))
def Zy (n : Net) : List AM.Obj := [.cells [.p (.list n.places_c (n.places.map eS)), .p (.list n.arcs_c (n.arcs.map Jg))]]
theorem ZdR (n : Net) (hp : n.places.length <= 1048576) (hs : ∀ s ∈ n.places, s.length <= 1048576) : ACalls Tryz.prog 143 [.p (ZcU n)] [] fun x H' => ∃ m : List Flt, FR (pF 26) (VE n) (n.places.length + 1) m /\ x = .sl 0 0 m.length m.length /\ H' = [.elems 2 (m.map eF)] := by
 refine ZB [2] Tryz.func143 rfl Zoq ?_;simp (disch := omega) only [Tryz.f143, go_sem, seval];refine Zn (Weak.ofNil 3 2 (by simp (disch := omega) only [go_sem, seval]) (by simp) (Weak.refl _ _ _)) ?_;refine Zq [1] (fun m : List Flt => [(3, .sl 1 0 m.length m.length)]) (fun m => Zy n ++ [.elems 2 (m.map eF)]) (fun m => FR (pF 26) (n.places.length <= 24) 1 m) ?_ ?_
 ·simp (disch := omega) only [go_sem, seval];refine cD ?_ ?_ <;> intro h <;> simp (disch := omega) only [Sh.out h, go_sem, seval]
  ·exact ⟨[(4, [112, 108, 97, 99, 101, 115])], ⟨by simp, by simp; omega, by simp [pF]⟩, Weak.mk (by simp (disch := omega) only [Zy, go_sem, seval])⟩
  ·exact ⟨[], FR.nil (by omega), Weak.mk (by simp (disch := omega) only [Zy, go_sem, seval])⟩
 ·intro m hm;refine Zd [] _ _ _ _ ?_;simp (disch := omega) only [Zy, go_sem, seval];refine Zf [1] (fun q : Nat × List Flt => [(3, .sl 1 0 q.2.length q.2.length), (4, .p (.int .i64 q.1))]) (fun q => Zy n ++ [.elems 2 (q.2.map eF)]) (fun q => q.1 <= n.places.length /\ FR (pF 26) (n.places.length <= 24 /\ ∀ j, j < q.1 -> ZjA n j) (q.1 + 1) q.2) (fun q => n.places.length - q.1) (0, m) ⟨by simp, hm.to (by simp) (by simp)⟩ (Weak.mk ?_) ?_
  ·simp (disch := omega) only [Zy, go_sem, seval]
  ·rintro ⟨k, m⟩ ⟨hk, hm⟩;simp only at hk hm;have hml := hm.len;simp (disch := omega) only [Zy, go_sem, seval];refine cD ?_ ?_ <;> intro h <;> simp (disch := omega) only [Sh.out h, go_sem, seval]
   ·have hk2 : k < n.places.length := by omega
    have hI : I64 (k : Int) := by omega
    have hdl := Ww k hI;refine (V5 k hI).use ?_;simp (disch := omega) only [go_sem, seval];simp (disch := first | omega | (simp only [List.length_cons, List.length_nil, List.length_append, List.length_map, List.length_take, List.length_drop] <;> omega)) only [go_sem, seval];refine (ZeH (nth n.places k) (hs _ (by rw [Ze hk2]; exact List.getElem_mem _))).use ?_;simp (disch := omega) only [go_sem, seval];refine cD ?_ ?_ <;> intro h2 <;> simp (disch := omega) only [Sh.out h2, go_sem, seval]
    ·simp only [Bool.not_eq_true'] at h2;exact ⟨(k + 1, m ++ [(5, [112, 108, 97, 99, 101, 32] ++ ZaH k)]), ⟨by simp only; omega, (hm.yes (c := ZjA n k) (by rw [ZjA, h2]; simp) (by simp [pF]; omega)).to (by simp) (by simp only [Zh, and_assoc])⟩, by simp only; omega, Weak.mk (by simp (disch := omega) only [Zy, go_sem, seval])⟩
    ·simp only [Bool.not_eq_false'] at h2;refine Zf [1, 3, 4, 5] (fun q : Nat × Bool => [(6, .p (.bool q.2)), (7, .p (.int .i64 q.1))]) (fun _ => Zy n ++ [.elems 2 (m.map eF)]) (fun q => q.1 <= k /\ (q.2 = false ↔ ∀ j, j < q.1 -> nth n.places j ≠ nth n.places k)) (fun q => k - q.1) (0, false) (by simp) (Weak.mk ?_) ?_
     ·simp (disch := omega) only [Zy, go_sem, seval]
     ·rintro ⟨j, b⟩ ⟨hj, hb⟩;simp only at hj hb;simp (disch := omega) only [Zy, go_sem, seval];refine cD ?_ ?_ <;> intro h3 <;> simp (disch := omega) only [Sh.out h3, go_sem, seval]
      ·refine ZA 14 mixed (by kernel_rfl) (by kernel_rfl) ?_;simp (disch := omega) only [go_sem, seval]
       have hjn : j < n.places.length := by omega
       cases b with
       | true =>
        simp (disch := omega) only [go_sem, seval];exact ⟨(j + 1, true), ⟨by simp only; omega, by rw [Zh, <- hb]; simp⟩, by simp only; omega, Weak.mk (by simp (disch := omega) only [Zy, go_sem, seval])⟩
       | false =>
        simp (disch := omega) only [go_sem, seval];refine ⟨(j + 1, decide (nth n.places j = nth n.places k)), ⟨by simp only; omega, by rw [Zh, <- hb]; simp⟩, by simp only; omega, Weak.mk (by simp (disch := omega) only [Zy, go_sem, seval])⟩
      ·have hjk : j = k := by omega
       subst hjk
       cases b with
       | true =>
        simp (disch := omega) only [go_sem, seval]
        have hno : ¬ ZjA n j := fun h5 => by have := hb.2 h5.2; cases this
        exact ⟨(j + 1, m ++ [(6, [112, 108, 97, 99, 101, 32] ++ ZaH j)]), ⟨by simp only; omega, (hm.yes (c := ZjA n j) hno (by simp [pF]; omega)).to (by simp) (by simp only [Zh, and_assoc])⟩, by simp only; omega, Weak.mk (by simp (disch := omega) only [Zy, go_sem, seval])⟩
       | false =>
        simp (disch := omega) only [go_sem, seval];exact ⟨(j + 1, m), ⟨by simp only; omega, (hm.no (c := ZjA n j) ⟨h2, hb.1 rfl⟩).to (by simp) (by simp only [Zh, and_assoc])⟩, by simp only; omega, Weak.mk (by simp (disch := omega) only [Zy, go_sem, seval])⟩
   ·have hkn : k = n.places.length := by omega
    subst hkn;exact ⟨m, hm.to (by omega) (by rw [VE]), 1, by simp (disch := omega) only [go_sem, seval]⟩
set_option maxHeartbeats 16000000
def X0 (a : Arc) : AM.Obj := .cells [.p (.int .i64 a.src), .p (.int .i64 a.dst), .p (.int .i64 a.prof), .p (.int .i64 a.miles), .p (.list a.travel_c (a.travel.map ePt)), .p (.list a.slow_c (a.slow.map ePt))]
abbrev XR (a b : Arc) : Prop := a.src = b.src /\ a.dst = b.dst /\ a.prof = b.prof
theorem ZlR (n : Net) (i : Nat) (hi : i < n.arcs.length) (hp : n.places.length <= 1048576) (ha : n.arcs.length <= 1048576) (ht : (nth n.arcs i).travel.length <= 1048576) (hsl : (nth n.arcs i).slow.length <= 1048576) :
  ACalls Tryz.prog 144 [.p (ZcU n), .p (.int .i64 (i : Nat))] [] fun x H' => ∃ m : List Flt, FR (pF 26) (ZcZ n i) 4000000 m /\ x = .sl 0 0 m.length m.length /\ H' = [.elems 2 (m.map eF)] := by
 refine ZB [4] Tryz.func144 rfl ZpW ?_;simp (disch := omega) only [Tryz.f144, go_sem, seval]
 have hI : I64 (i : Int) := by omega
 have hdl := Ww i hI;refine (V5 i hI).use ?_;simp (disch := omega) only [go_sem, seval];simp (disch := first | omega | (simp only [List.length_cons, List.length_nil, List.length_append, List.length_map, List.length_take, List.length_drop] <;> omega)) only [go_sem, seval]
 have hat : (97 :: 114 :: 99 :: 32 :: ZaH i).length <= 26 := by simp; omega
 generalize hga : nth n.arcs i = a at ht hsl ⊢;generalize 97 :: 114 :: 99 :: 32 :: ZaH i = at' at hat ⊢;refine Zn (Weak.ofNil 5 2 (by simp (disch := omega) only [go_sem, seval]) (by simp) (Weak.refl _ _ _)) ?_;refine Zq [1, 2, 6, 7] (fun m : List Flt => [(5, .sl 2 0 m.length m.length)]) (fun m => Zy n ++ [X0 a, .elems 2 (m.map eF)]) (fun m => FR (pF 26) (0 <= a.src /\ a.src < n.places.length /\ 0 <= a.dst /\ a.dst < n.places.length) 1 m) ?_ ?_
 ·simp (disch := omega) only [go_sem, seval]
  repeat' (first | (refine ZR (fun hq => ?_) (fun hq => ?_) <;> (try simp only [decide_eq_true_eq, decide_eq_false_iff_not, Classical.not_not] at hq) <;> simp (disch := omega) only [Sh.out hq, go_sem, seval]) | (refine ZS (fun hq => ?_) (fun hq => ?_) <;> (try simp only [decide_eq_true_eq, decide_eq_false_iff_not, Classical.not_not] at hq) <;> simp (disch := omega) only [Sh.out hq, go_sem, seval]) | (refine Xc (fun hq => ?_) (fun hq => ?_) <;> (try simp only [decide_eq_true_eq, decide_eq_false_iff_not, Classical.not_not] at hq) <;> simp (disch := omega) only [Sh.out hq, go_sem, seval]))
  all_goals try exact ⟨[], FR.nil (by omega), Weak.mk (by simp (disch := omega) only [Zy, X0, go_sem, seval])⟩
  all_goals exact ⟨[(11, at')], ⟨by simp, by simp; omega, by simpa [pF] using hat⟩, Weak.mk (by simp (disch := omega) only [Zy, X0, go_sem, seval])⟩
 ·intro m hm;refine Zd [6] _ _ _ _ ?_;simp (disch := omega) only [Zy, X0, go_sem, seval];have hml := hm.len
  refine Zq [1, 2, 6, 7] (fun m : List Flt => [(5, .sl 2 0 m.length m.length)]) (fun m => Zy n ++ [X0 a, .elems 2 (m.map eF)])
   (fun m => FR (pF 26) ((0 <= a.src /\ a.src < n.places.length /\ 0 <= a.dst /\ a.dst < n.places.length) /\ (0 <= a.prof /\ a.prof <= 7 /\ 0 <= a.miles /\ a.miles <= 10000 /\ a.src ≠ a.dst)) 2 m) ?_ ?_
  ·simp (disch := omega) only [go_sem, seval]
   repeat' (first | (refine ZR (fun hq => ?_) (fun hq => ?_) <;> (try simp only [decide_eq_true_eq, decide_eq_false_iff_not, Classical.not_not] at hq) <;> simp (disch := omega) only [Sh.out hq, go_sem, seval]) | (refine ZS (fun hq => ?_) (fun hq => ?_) <;> (try simp only [decide_eq_true_eq, decide_eq_false_iff_not, Classical.not_not] at hq) <;> simp (disch := omega) only [Sh.out hq, go_sem, seval]) | (refine Xc (fun hq => ?_) (fun hq => ?_) <;> (try simp only [decide_eq_true_eq, decide_eq_false_iff_not, Classical.not_not] at hq) <;> simp (disch := omega) only [Sh.out hq, go_sem, seval]))
   all_goals try exact ⟨m, hm.no (by omega), Weak.mk (by simp (disch := omega) only [Zy, X0, go_sem, seval])⟩
   all_goals exact ⟨m ++ [(2, at')], hm.yes (by omega) (by simpa [pF] using hat), Weak.mk (by simp (disch := omega) only [Zy, X0, go_sem, seval])⟩
  ·clear hm hml;intro m hm;refine Zd [14] _ _ _ _ ?_;simp (disch := omega) only [Zy, X0, go_sem, seval];have hml := hm.len;refine ZY [14] [1, 2, 5, 6, 7] (fun q : Nat × Bool => [(8, .p (.bool q.2)), (9, .p (.int .i64 q.1))]) (fun _ => Zy n ++ [X0 a, .elems 2 (m.map eF)]) (fun q => q.1 <= i /\ (q.2 = false ↔ ∀ j, j < q.1 -> ¬ XR a (nth n.arcs j))) (fun q => i - q.1) (0, false) (by simp) (Weak.mk ?_) ?_
   ·simp (disch := omega) only [Zy, X0, go_sem, seval]
   ·rintro ⟨k, b⟩ ⟨hk, hb⟩;simp only at hk hb;simp (disch := omega) only [Zy, X0, go_sem, seval];refine cD ?_ ?_ <;> intro h <;> simp (disch := omega) only [Sh.out h, go_sem, seval]
    ·have hkn : k < n.arcs.length := by omega
     cases b with
     | true =>
      simp (disch := omega) only [go_sem, seval];exact ⟨(k + 1, true), ⟨by simp only; omega, by rw [Zh, <- hb]; simp⟩, by simp only; omega, Weak.mk (by simp (disch := omega) only [Zy, X0, go_sem, seval])⟩
     | false =>
      simp (disch := omega) only [go_sem, seval]
      repeat' (first | (refine ZR (fun hq => ?_) (fun hq => ?_) <;> (try simp only [decide_eq_true_eq, decide_eq_false_iff_not, Classical.not_not] at hq) <;> simp (disch := omega) only [Sh.out hq, go_sem, seval]) | (refine ZS (fun hq => ?_) (fun hq => ?_) <;> (try simp only [decide_eq_true_eq, decide_eq_false_iff_not, Classical.not_not] at hq) <;> simp (disch := omega) only [Sh.out hq, go_sem, seval]) | (refine Xc (fun hq => ?_) (fun hq => ?_) <;> (try simp only [decide_eq_true_eq, decide_eq_false_iff_not, Classical.not_not] at hq) <;> simp (disch := omega) only [Sh.out hq, go_sem, seval]))
      all_goals refine ⟨(k + 1, decide (XR a (nth n.arcs k))), ⟨by simp only; omega, by rw [Zh, <- hb]; simp⟩, by simp only; omega, Weak.mk ?_⟩
      all_goals simp (disch := omega) only [Zy, X0, go_sem, seval]
      all_goals simp [XR, *]
    ·have hki : k = i := by omega
     subst hki;have htw : (b = false ↔ ∀ j, j < k -> ¬ XR a (nth n.arcs j)) := hb;clear hb hk h
     refine Zq [6, 7] (fun m : List Flt => [(5, .sl 2 0 m.length m.length)]) (fun m => Zy n ++ [X0 a, .elems 2 (m.map eF)])
      (fun m => FR (pF 26) (((0 <= a.src /\ a.src < n.places.length /\ 0 <= a.dst /\ a.dst < n.places.length) /\ (0 <= a.prof /\ a.prof <= 7 /\ 0 <= a.miles /\ a.miles <= 10000 /\ a.src ≠ a.dst)) /\ ∀ j, j < k -> ¬ XR a (nth n.arcs j)) 3 m) ?_ ?_
     ·simp (disch := omega) only [go_sem, seval]
      cases b with
      | true =>
       simp (disch := omega) only [go_sem, seval];exact ⟨m ++ [(6, at')], hm.yes (by rw [<- htw]; simp) (by simpa [pF] using hat), Weak.mk (by simp (disch := omega) only [Zy, X0, go_sem, seval])⟩
      | false =>
       simp (disch := omega) only [go_sem, seval];exact ⟨m, hm.no (htw.1 rfl), Weak.mk (by simp (disch := omega) only [Zy, X0, go_sem, seval])⟩
     ·clear hm hml;intro m hm;refine Zd [21] _ _ _ _ ?_;simp (disch := omega) only [Zy, X0, go_sem, seval];have hml := hm.len;refine ((Zjx a.travel a.travel_c ht).frozenE).useV fun lt hlt => ?_;simp (disch := omega) only [go_sem, seval];have hltl := hlt.len
      refine ZY [21] [6, 7, 11] (fun q : Nat × List Flt => [(5, .sl 2 0 q.2.length q.2.length), (12, .p (.int .i64 q.1))]) (fun q => Zy n ++ [X0 a, .elems 2 (q.2.map eF)])
       (fun q => q.1 <= lt.length /\ FR (pF 26) ((((0 <= a.src /\ a.src < n.places.length /\ 0 <= a.dst /\ a.dst < n.places.length) /\ (0 <= a.prof /\ a.prof <= 7 /\ 0 <= a.miles /\ a.miles <= 10000 /\ a.src ≠ a.dst)) /\ ∀ j, j < k -> ¬ XR a (nth n.arcs j)) /\ q.1 = 0) (3 + q.1) q.2) (fun q => lt.length - q.1) (0, m) ⟨by simp, hm.to (by simp) (by simp)⟩ (Weak.mk ?_) ?_
      ·simp (disch := omega) only [Zy, X0, go_sem, seval]
      ·clear hm hml;rintro ⟨j, m⟩ ⟨hj, hm⟩;simp only at hj hm;have hml := hm.len;simp (disch := omega) only [Zy, X0, go_sem, seval];refine cD ?_ ?_ <;> intro h <;> simp (disch := omega) only [Sh.out h, go_sem, seval]
       ·have hj2 : j < lt.length := by omega
        exact ⟨(j + 1, m ++ [((nth lt j).1, at')]), ⟨by simp only; omega, (hm.yes (c := False) (by simp) (by simpa [pF] using hat)).to (by simp only; omega) (by simp)⟩, by simp only; omega, Weak.mk (by simp (disch := omega) only [Zy, X0, go_sem, seval])⟩
       ·have hjl : j = lt.length := by omega
        subst hjl;have hm2 := hm.to (d := 3 + lt.length) (D := (((0 <= a.src /\ a.src < n.places.length /\ 0 <= a.dst /\ a.dst < n.places.length) /\ (0 <= a.prof /\ a.prof <= 7 /\ 0 <= a.miles /\ a.miles <= 10000 /\ a.src ≠ a.dst)) /\ ∀ j, j < k -> ¬ XR a (nth n.arcs j)) /\ YB a.travel) (Nat.le_refl _) (by rw [<- hlt.emp, List.eq_nil_iff_length_eq_zero]);clear hm
        refine Zq [6, 7] (fun m : List Flt => [(5, .sl 2 0 m.length m.length)]) (fun m => Zy n ++ [X0 a, .elems 2 (m.map eF)])
         (fun m => FR (pF 26) (((((0 <= a.src /\ a.src < n.places.length /\ 0 <= a.dst /\ a.dst < n.places.length) /\ (0 <= a.prof /\ a.prof <= 7 /\ 0 <= a.miles /\ a.miles <= 10000 /\ a.src ≠ a.dst)) /\ ∀ j, j < k -> ¬ XR a (nth n.arcs j)) /\ YB a.travel) /\ a.slow.length <= 16) (4 + lt.length) m) ?_ ?_
        ·simp (disch := omega) only [go_sem, seval];refine cD ?_ ?_ <;> intro h2 <;> simp (disch := omega) only [Sh.out h2, go_sem, seval]
         ·exact ⟨m ++ [(4, at')], (hm2.yes (by omega) (by simpa [pF] using hat)).to (by omega) Iff.rfl, Weak.mk (by simp (disch := omega) only [Zy, X0, go_sem, seval])⟩
         ·exact ⟨m, (hm2.no (by omega)).to (by omega) Iff.rfl, Weak.mk (by simp (disch := omega) only [Zy, X0, go_sem, seval])⟩
        ·clear hm2 hml h hj;intro m hm;refine Zd [] _ _ _ _ ?_;simp (disch := omega) only [Zy, X0, go_sem, seval]
         refine Zf [6, 7] (fun q : Nat × List Flt => [(5, .sl 2 0 q.2.length q.2.length), (13, .p (.int .i64 q.1))]) (fun q => Zy n ++ [X0 a, .elems 2 (q.2.map eF)])
          (fun q => q.1 <= a.slow.length /\ FR (pF 26) ((((((0 <= a.src /\ a.src < n.places.length /\ 0 <= a.dst /\ a.dst < n.places.length) /\ (0 <= a.prof /\ a.prof <= 7 /\ 0 <= a.miles /\ a.miles <= 10000 /\ a.src ≠ a.dst)) /\ ∀ j, j < k -> ¬ XR a (nth n.arcs j)) /\ YB a.travel) /\ a.slow.length <= 16) /\ ∀ j, j < q.1 -> Vm a.slow j) (4 + lt.length + q.1) q.2) (fun q => a.slow.length - q.1) (0, m) ⟨by simp, hm.to (by simp) (by simp)⟩ (Weak.mk ?_) ?_
         ·simp (disch := omega) only [Zy, X0, go_sem, seval]
         ·clear hm;rintro ⟨j, m⟩ ⟨hj, hm⟩;simp only at hj hm;have hml := hm.len;simp (disch := omega) only [Zy, X0, go_sem, seval];refine cD ?_ ?_ <;> intro h <;> simp (disch := omega) only [Sh.out h, go_sem, seval]
          ·have hj2 : j < a.slow.length := by omega
           refine Zi mixed (by kernel_rfl) (by kernel_rfl) ?_;simp (disch := omega) only [go_sem, seval];refine Zm (Zb9 (nth a.slow j).t) ?_;simp (disch := omega) only [go_sem, seval];have hslo : Vm a.slow j ↔ (ZhS (nth a.slow j).t = true /\ ZhS (nth a.slow j).a = true /\ (0 < j -> (nth a.slow (j - 1)).t < (nth a.slow j).t)) := Iff.rfl;have hyes : ¬ Vm a.slow j -> _ := fun hs => (hm.yes (x := (2, at')) hs (by simpa [pF] using hat)).to (D := (((((0 <= a.src /\ a.src < n.places.length /\ 0 <= a.dst /\ a.dst < n.places.length) /\ (0 <= a.prof /\ a.prof <= 7 /\ 0 <= a.miles /\ a.miles <= 10000 /\ a.src ≠ a.dst)) /\ ∀ j, j < k -> ¬ XR a (nth n.arcs j)) /\ YB a.travel) /\ a.slow.length <= 16) /\ ∀ i, i < j + 1 -> Vm a.slow i) (d := 4 + lt.length + (j + 1)) (by omega) (by simp only [Zh, and_assoc])
           have hno : Vm a.slow j -> _ := fun hs => (hm.no hs).to (D := (((((0 <= a.src /\ a.src < n.places.length /\ 0 <= a.dst /\ a.dst < n.places.length) /\ (0 <= a.prof /\ a.prof <= 7 /\ 0 <= a.miles /\ a.miles <= 10000 /\ a.src ≠ a.dst)) /\ ∀ j, j < k -> ¬ XR a (nth n.arcs j)) /\ YB a.travel) /\ a.slow.length <= 16) /\ ∀ i, i < j + 1 -> Vm a.slow i) (d := 4 + lt.length + (j + 1)) (by omega) (by simp only [Zh, and_assoc])
           cases ht1 : ZhS (nth a.slow j).t with
           | false =>
            simp (disch := omega) only [go_sem, seval];exact ⟨(j + 1, m ++ [(2, at')]), ⟨by simp only; omega, hyes (by rw [hslo, ht1]; simp)⟩, by simp only; omega, Weak.mk (by simp (disch := omega) only [Zy, X0, go_sem, seval])⟩
           | true =>
            simp (disch := omega) only [go_sem, seval];refine Zm (Zb9 (nth a.slow j).a) ?_;simp (disch := omega) only [go_sem, seval]
            cases ht2 : ZhS (nth a.slow j).a with
            | false =>
             simp (disch := omega) only [go_sem, seval];exact ⟨(j + 1, m ++ [(2, at')]), ⟨by simp only; omega, hyes (by rw [hslo, ht2]; simp)⟩, by simp only; omega, Weak.mk (by simp (disch := omega) only [Zy, X0, go_sem, seval])⟩
            | true =>
             simp (disch := omega) only [go_sem, seval]
             repeat' (first | (refine ZR (fun hq => ?_) (fun hq => ?_) <;> (try simp only [decide_eq_true_eq, decide_eq_false_iff_not, Classical.not_not] at hq) <;> simp (disch := omega) only [Sh.out hq, go_sem, seval]) | (refine ZS (fun hq => ?_) (fun hq => ?_) <;> (try simp only [decide_eq_true_eq, decide_eq_false_iff_not, Classical.not_not] at hq) <;> simp (disch := omega) only [Sh.out hq, go_sem, seval]) | (refine Xc (fun hq => ?_) (fun hq => ?_) <;> (try simp only [decide_eq_true_eq, decide_eq_false_iff_not, Classical.not_not] at hq) <;> simp (disch := omega) only [Sh.out hq, go_sem, seval]))
             ·exact ⟨(j + 1, m ++ [(2, at')]), ⟨by simp only; omega, hyes (by rw [hslo]; omega)⟩, by simp only; omega, Weak.mk (by simp (disch := omega) only [Zy, X0, go_sem, seval])⟩
             ·exact ⟨(j + 1, m), ⟨by simp only; omega, hno (by rw [hslo]; exact ⟨ht1, ht2, by omega⟩)⟩, by simp only; omega, Weak.mk (by simp (disch := omega) only [Zy, X0, go_sem, seval])⟩
             ·exact ⟨(j + 1, m), ⟨by simp only; omega, hno (by rw [hslo]; exact ⟨ht1, ht2, by omega⟩)⟩, by simp only; omega, Weak.mk (by simp (disch := omega) only [Zy, X0, go_sem, seval])⟩
          ·have hjn : j = a.slow.length := by omega
           subst hjn;exact ⟨m, hm.to (by omega) (by rw [ZcZ, hga]), 2, by simp (disch := omega) only [Zy, X0, go_sem, seval]⟩
theorem Zl {α : Type} [Inhabited α] {l : List α} {i : Nat} (h : i < l.length) : nth l i ∈ l := by rw [Ze h]; exact List.getElem_mem _
theorem Zsr (n : Net) (hw : n.wf 1048576) : ACalls Tryz.prog 96 [.p (ZcU n)] [] fun x H' => ∃ m : List Flt, FR (pF 26) (netOk n) 4194306000000 m /\ x = .sl 0 0 m.length m.length /\ H' = [.elems 2 (m.map eF)] := by
 obtain ⟨w1, w2, w3, w4⟩ := hw;refine ZB [2] Tryz.func96 rfl Zxm ?_;simp (disch := omega) only [Tryz.f96, go_sem, seval];refine (ZdR n w1 w2).useE fun m hm => ?_;simp (disch := omega) only [go_sem, seval];have hml := hm.len;refine Zq [1] (fun m : List Flt => [(3, .sl 1 0 m.length m.length)]) (fun m => Zy n ++ [.elems 2 (m.map eF)]) (fun m => FR (pF 26) (VE n /\ n.arcs.length <= 1024) (n.places.length + 2) m) ?_ ?_
 ·simp (disch := omega) only [go_sem, seval];refine cD ?_ ?_ <;> intro h <;> simp (disch := omega) only [Sh.out h, go_sem, seval]
  ·exact ⟨m ++ [(4, [97, 114, 99, 115])], hm.yes (by omega) (by simp [pF]), Weak.mk (by simp (disch := omega) only [Zy, go_sem, seval])⟩
  ·exact ⟨m, hm.no (by omega), Weak.mk (by simp (disch := omega) only [Zy, go_sem, seval])⟩
 ·clear hm hml;intro m hm;refine Zd [] _ _ _ _ ?_;simp (disch := omega) only [Zy, go_sem, seval];refine Zf [1] (fun q : Nat × List Flt => [(3, .sl 1 0 q.2.length q.2.length), (4, .p (.int .i64 q.1))]) (fun q => Zy n ++ [.elems 2 (q.2.map eF)]) (fun q => q.1 <= n.arcs.length /\ FR (pF 26) ((VE n /\ n.arcs.length <= 1024) /\ ∀ j, j < q.1 -> ZcZ n j) (n.places.length + 2 + q.1 * 4000000) q.2) (fun q => n.arcs.length - q.1) (0, m) ⟨by simp, hm.to (by simp) (by simp)⟩ (Weak.mk ?_) ?_
  ·simp (disch := omega) only [Zy, go_sem, seval]
  ·clear hm;rintro ⟨k, m⟩ ⟨hk, hm⟩;simp only at hk hm;have hml := hm.len;simp (disch := omega) only [Zy, go_sem, seval];refine cD ?_ ?_ <;> intro h <;> simp (disch := omega) only [Sh.out h, go_sem, seval]
   ·have hk2 : k < n.arcs.length := by omega
    have ha := w4 _ (Zl hk2);refine (ZlR n k hk2 w1 w3 ha.2.2.2.2.1 ha.2.2.2.2.2.2.1).useE fun f hf => ?_;simp (disch := omega) only [go_sem, seval];have hfl := hf.len
    have q1 : (m.length + f.length) * 24 <= 140737488355328 := by omega
    have q2 : m.length + f.length <= 140737488355328 := by omega
    simp (disch := omega) only [q1, q2, go_sem, seval];refine ⟨(k + 1, m ++ f), ⟨by simp only; omega, (hm.app hf).to (by simp only; omega) (by simp only [Zh, and_assoc])⟩, by simp only; omega, Weak.mk ?_⟩;simp (disch := omega) only [Zy, List.length_append, List.map_append, go_sem, seval]
   ·have hkn : k = n.arcs.length := by omega
    subst hkn;exact ⟨m, hm.to (by omega) (by rw [netOk]), 1, by simp (disch := omega) only [Zy, go_sem, seval]⟩
theorem Yp (n lo hi : Int) : PC 145 [.p (.int .i64 n), .p (.int .i64 lo), .p (.int .i64 hi)] (.bool (rng n lo hi)) := by
 refine Za Tryz.func145 rfl ZoI ?_;simp (disch := omega) only [Tryz.f145, go_sem, seval];refine gT ?_ ?_ <;> intro h <;> simp (disch := omega) only [Sh.out h, go_sem, seval]
 all_goals (simp [rng]; first | done | omega | (rw [Bool.eq_iff_iff]; simp; omega))
def WR (l : List Int) (d : Int) : Bool := rng l.length 1 3 && decide ((l.length : Int) = d) && l.all fun n => rng n 0 1000
theorem ZdI (l : List Int) (c : Bool) (d : Int) (hl : l.length <= 1048576) : PC 206 [.p (.list c (l.map eI)), .p (.int .i64 d)] (.bool (WR l d)) := by
 refine Za Tryz.func206 rfl Zn3 ?_;simp (disch := omega) only [Tryz.f206, go_sem, seval];refine (Yp l.length 1 3).use ?_;simp (disch := omega) only [go_sem, seval];refine gF ?_ ?_ <;> intro h <;> simp (disch := omega) only [Sh.out h, go_sem, seval]
 ·simp only [Bool.not_eq_true'] at h;simp [WR, h]
 ·simp only [Bool.not_eq_false'] at h;refine cD ?_ ?_ <;> intro h2 <;> simp (disch := omega) only [Sh.out h2, go_sem, seval]
  ·simp [WR, h, h2]
  ·simp only [Classical.not_not] at h2;subst h2;refine Zf [0] (fun k : Nat => [(5, .p (.int .i64 k))]) (fun _ => []) (fun k => k <= l.length /\ ∀ j, j < k -> rng (nth l j) 0 1000 = true) (fun k => l.length - k) 0 (by simp) (Weak.mk ?_) ?_
   ·simp (disch := omega) only [go_sem, seval]
   ·rintro k ⟨hk, hno⟩;simp (disch := omega) only [go_sem, seval];refine cD ?_ ?_ <;> intro h3 <;> simp (disch := omega) only [Sh.out h3, go_sem, seval]
    ·have hk2 : k < l.length := by omega
     refine (Yp (nth l k) 0 1000).use ?_;simp (disch := omega) only [go_sem, seval];refine cD ?_ ?_ <;> intro h4 <;> simp (disch := omega) only [Sh.out h4, go_sem, seval]
     ·simp only [Bool.not_eq_true'] at h4
      have : l.all (fun n => rng n 0 1000) = false := by
       rw [List.all_eq_false]; exact ⟨nth l k, Zl hk2, by rw [h4]; simp⟩
      simp [WR, this]
     ·simp only [Bool.not_eq_false'] at h4;exact ⟨k + 1, ⟨by omega, Zh.2 ⟨hno, h4⟩⟩, by omega, wk⟩
    ·have : l.all (fun n => rng n 0 1000) = true := by
      rw [List.all_eq_true];intro x hx;obtain ⟨j, hj, rfl⟩ := List.mem_iff_getElem.1 hx;rw [<- Ze hj]; exact hno j (by omega)
     simp [WR, h, this]
def Ks (l : List Typ) (i : Nat) (s : List UInt8) : Bool := (List.range i).any fun j => decide ((nth l j).name = s)
theorem Yu {l : List Typ} {i : Nat} {s : List UInt8} : Ks l i s = false ↔ ∀ j, j < i -> (nth l j).name ≠ s := by
 simp [Ks, List.any_eq_false]
theorem ZfG (l : List Typ) (c : Bool) (i : Nat) (s : List UInt8) (hi : i <= l.length) (hl : l.length <= 1048576) : PC 205 [.p (.list c (l.map QP)), .p (.int .i64 (i : Nat)), .p (.str s)] (.bool (Ks l i s)) := by
 refine Za Tryz.func205 rfl Zpj ?_;simp (disch := omega) only [Tryz.f205, go_sem, seval];refine Zf [0, 1, 2] (fun k : Nat => [(7, .p (.int .i64 k))]) (fun _ => []) (fun k => k <= i /\ ∀ j, j < k -> (nth l j).name ≠ s) (fun k => i - k) 0 (by simp) (Weak.mk ?_) ?_
 ·simp (disch := omega) only [go_sem, seval]
 ·rintro k ⟨hk, hno⟩;simp (disch := omega) only [go_sem, seval];refine cD ?_ ?_ <;> intro h3 <;> simp (disch := omega) only [Sh.out h3, go_sem, seval]
  ·have hk2 : k < l.length := by omega
   refine cD ?_ ?_ <;> intro h4 <;> simp (disch := omega) only [Sh.out h4, go_sem, seval]
   ·have : Ks l i s = true := by
     cases hq : Ks l i s with
     | true => rfl
     | false => exact absurd h4 (Yu.1 hq k (by omega))
    rw [this]
   ·exact ⟨k + 1, ⟨by omega, Zh.2 ⟨hno, h4⟩⟩, by omega, wk⟩
  ·have : k = i := by omega
   subst this;rw [Yu.2 hno]
def dimsOf (l : List Typ) : Int := if l.length = 0 then 0 else ((nth l 0).cap.length : Int)
theorem ZcL (l : List Typ) (c : Bool) (hl : l.length <= 1048576) : PC 99 [.p (.list c (l.map QP))] (.int .i64 (dimsOf l)) := by
 refine Za Tryz.func99 rfl Zxx ?_;simp (disch := omega) only [Tryz.f99, go_sem, seval];refine cD ?_ ?_ <;> intro h <;> simp (disch := omega) only [Sh.out h, go_sem, seval]
 ·have : l.length = 0 := by omega
  simp [dimsOf, this]
 ·have h0 : 0 < l.length := by omega
  have h1 : l.length ≠ 0 := by omega
  simp (disch := first | omega | (simp only [List.length_cons, List.length_nil, List.length_append, List.length_map, List.length_take, List.length_drop] <;> omega)) only [dimsOf, h1, go_sem, seval]
def Xm (t : Typ) : AM.Obj := .cells [.p (.str t.name), .p (.int .i64 t.count), .p (.int .i64 t.src), .p (.int .i64 t.dst), .p (.list t.cap_c (t.cap.map eI)), .p (.int .i64 t.skills), .p (.int .i64 t.prof), .p (.int .i64 t.opn), .p (.int .i64 t.cls), .p (.int .i64 t.drive), .p (.int .i64 t.rest), .p (.int .i64 t.fixed), .p (.int .i64 t.perMile), .p (.int .i64 t.perTick)]
def QF (n : Net) (l : List Typ) (i : Nat) : Prop := ((((((((nameOk (nth l i).name = true) /\ (∀ j, j < i -> (nth l j).name ≠ (nth l i).name)) /\ rng (nth l i).count 0 10 = true) /\ (rng (nth l i).src 0 (n.places.length - 1) = true /\ rng (nth l i).dst 0 (n.places.length - 1) = true)) /\ WR (nth l i).cap (dimsOf l) = true) /\ rng (nth l i).skills 0 1073741823 = true) /\ (rng (nth l i).opn 0 (nth l i).cls = true /\ (nth l i).cls <= 4096)) /\ (rng (nth l i).drive 1 4096 = true /\ rng (nth l i).rest 0 4096 = true)) /\ (rng (nth l i).prof 0 7 = true /\ rng (nth l i).fixed 0 100000 = true /\ rng (nth l i).perMile 0 100 = true /\ rng (nth l i).perTick 0 100 = true)
theorem Zec (n : Net) (l : List Typ) (c : Bool) (i : Nat) (hi : i < l.length) (hl : l.length <= 1048576) (hw : n.wf 1048576) (ht : (nth l i).wf 1048576) :
  ACalls Tryz.prog 146 [.p (ZcU n), .p (.list c (l.map QP)), .p (.int .i64 (i : Nat))] [] fun x H' => ∃ m : List Int, FR (fun _ => True) (QF n l i) 9 m /\ x = .sl 0 0 m.length m.length /\ H' = [.elems 1 (m.map eI)] := by
 obtain ⟨w1, w2, w3, w4⟩ := hw;refine ZB [3] Tryz.func146 rfl Zos ?_;simp (disch := omega) only [Tryz.f146, go_sem, seval];have hty : QF n l i ↔ ((((((((nameOk (nth l i).name = true) /\ (∀ j, j < i -> (nth l j).name ≠ (nth l i).name)) /\ rng (nth l i).count 0 10 = true) /\ (rng (nth l i).src 0 (n.places.length - 1) = true /\ rng (nth l i).dst 0 (n.places.length - 1) = true)) /\ WR (nth l i).cap (dimsOf l) = true) /\ rng (nth l i).skills 0 1073741823 = true) /\ (rng (nth l i).opn 0 (nth l i).cls = true /\ (nth l i).cls <= 4096)) /\ (rng (nth l i).drive 1 4096 = true /\ rng (nth l i).rest 0 4096 = true)) /\ (rng (nth l i).prof 0 7 = true /\ rng (nth l i).fixed 0 100000 = true /\ rng (nth l i).perMile 0 100 = true /\ rng (nth l i).perTick 0 100 = true) := Iff.rfl
 generalize hga : nth l i = t at ht hty ⊢;have hname := ht.1;have hcap := ht.2.2.2.2.1;refine Zn (Weak.ofNil 8 1 (by simp (disch := omega) only [go_sem, seval]) (by simp) (Weak.refl _ _ _)) ?_;refine Zq [1, 2, 3, 7] (fun m : List Int => [(8, .sl 2 0 m.length m.length)]) (fun m => Zy n ++ [Xm t, .elems 1 (m.map eI)]) (fun m => FR (fun _ => True) (nameOk t.name = true) 1 m) ?_ ?_
 ·simp (disch := omega) only [go_sem, seval];refine (ZeH t.name hname).use ?_;simp (disch := omega) only [go_sem, seval];refine cD ?_ ?_ <;> intro h0 <;> simp (disch := omega) only [Sh.out h0, go_sem, seval]
  ·simp only [Bool.not_eq_true'] at h0;exact ⟨[5], ⟨by simp, by simp [h0], by simp⟩, Weak.mk (by simp (disch := omega) only [Zy, Xm, go_sem, seval])⟩
  ·simp only [Bool.not_eq_false'] at h0;exact ⟨[], FR.nil (by simp [h0]), Weak.mk (by simp (disch := omega) only [Zy, Xm, go_sem, seval])⟩
 ·skip
  intro m hm;refine Zd [5] _ _ _ _ ?_;simp (disch := omega) only [Zy, Xm, go_sem, seval];have hml := hm.len;refine Zq [1, 3, 7] (fun m : List Int => [(8, .sl 2 0 m.length m.length)]) (fun m => Zy n ++ [Xm t, .elems 1 (m.map eI)]) (fun m => FR (fun _ => True) ((nameOk t.name = true) /\ (∀ j, j < i -> (nth l j).name ≠ t.name)) 2 m) ?_ ?_
  ·simp (disch := omega) only [go_sem, seval];refine (ZfG l c i t.name (by omega) hl).use ?_;simp (disch := omega) only [go_sem, seval];refine cD ?_ ?_ <;> intro h <;> simp (disch := omega) only [Sh.out h, go_sem, seval]
   ·exact ⟨m ++ [6], hm.yes (by rw [<- Yu, h]; simp) trivial, Weak.mk (by simp (disch := omega) only [Zy, Xm, go_sem, seval])⟩
   ·exact ⟨m, hm.no (by exact Yu.1 h), Weak.mk (by simp (disch := omega) only [Zy, Xm, go_sem, seval])⟩
  ·clear hm hml;intro m hm;refine Zd [7] _ _ _ _ ?_;simp (disch := omega) only [Zy, Xm, go_sem, seval];have hml := hm.len;refine Zq [1, 3, 7] (fun m : List Int => [(8, .sl 2 0 m.length m.length)]) (fun m => Zy n ++ [Xm t, .elems 1 (m.map eI)]) (fun m => FR (fun _ => True) (((nameOk t.name = true) /\ (∀ j, j < i -> (nth l j).name ≠ t.name)) /\ rng t.count 0 10 = true) 3 m) ?_ ?_
   ·simp (disch := omega) only [go_sem, seval];refine (Yp t.count 0 10).use ?_;simp (disch := omega) only [go_sem, seval];refine cD ?_ ?_ <;> intro h0 <;> simp (disch := omega) only [Sh.out h0, go_sem, seval]
    ·simp only [Bool.not_eq_true'] at h0;exact ⟨m ++ [22], hm.yes (by simp [h0]) trivial, Weak.mk (by simp (disch := omega) only [Zy, Xm, go_sem, seval])⟩
    ·simp only [Bool.not_eq_false'] at h0;exact ⟨m, hm.no (by simp [h0]), Weak.mk (by simp (disch := omega) only [Zy, Xm, go_sem, seval])⟩
   ·clear hm hml;intro m hm;refine Zd [9] _ _ _ _ ?_;simp (disch := omega) only [Zy, Xm, go_sem, seval];have hml := hm.len;refine Zq [1, 7] (fun m : List Int => [(8, .sl 2 0 m.length m.length)]) (fun m => Zy n ++ [Xm t, .elems 1 (m.map eI)]) (fun m => FR (fun _ => True) ((((nameOk t.name = true) /\ (∀ j, j < i -> (nth l j).name ≠ t.name)) /\ rng t.count 0 10 = true) /\ (rng t.src 0 (n.places.length - 1) = true /\ rng t.dst 0 (n.places.length - 1) = true)) 4 m) ?_ ?_
    ·simp (disch := omega) only [go_sem, seval];refine (Yp t.src 0 (n.places.length - 1)).use ?_;simp (disch := omega) only [go_sem, seval];refine gF ?_ ?_ <;> intro h0 <;> simp (disch := omega) only [Sh.out h0, go_sem, seval]
     ·simp only [Bool.not_eq_true'] at h0;exact ⟨m ++ [11], hm.yes (by simp [h0]) trivial, Weak.mk (by simp (disch := omega) only [Zy, Xm, go_sem, seval])⟩
     ·simp only [Bool.not_eq_false'] at h0;refine (Yp t.dst 0 (n.places.length - 1)).use ?_;simp (disch := omega) only [go_sem, seval];refine cD ?_ ?_ <;> intro h1 <;> simp (disch := omega) only [Sh.out h1, go_sem, seval]
      ·simp only [Bool.not_eq_true'] at h1;exact ⟨m ++ [11], hm.yes (by simp [h1]) trivial, Weak.mk (by simp (disch := omega) only [Zy, Xm, go_sem, seval])⟩
      ·simp only [Bool.not_eq_false'] at h1;exact ⟨m, hm.no (by simp [h0, h1]), Weak.mk (by simp (disch := omega) only [Zy, Xm, go_sem, seval])⟩
    ·clear hm hml;intro m hm;refine Zd [11] _ _ _ _ ?_;simp (disch := omega) only [Zy, Xm, go_sem, seval];have hml := hm.len;refine Zq [7] (fun m : List Int => [(8, .sl 2 0 m.length m.length)]) (fun m => Zy n ++ [Xm t, .elems 1 (m.map eI)]) (fun m => FR (fun _ => True) (((((nameOk t.name = true) /\ (∀ j, j < i -> (nth l j).name ≠ t.name)) /\ rng t.count 0 10 = true) /\ (rng t.src 0 (n.places.length - 1) = true /\ rng t.dst 0 (n.places.length - 1) = true)) /\ WR t.cap (dimsOf l) = true) 5 m) ?_ ?_
     ·simp (disch := omega) only [go_sem, seval];refine Zi mixed (by kernel_rfl) (by kernel_rfl) ?_;simp (disch := omega) only [go_sem, seval];refine Zm (ZcL l c hl) ?_;simp (disch := omega) only [go_sem, seval];refine Zm (ZdI t.cap t.cap_c (dimsOf l) hcap) ?_;simp (disch := omega) only [go_sem, seval];refine cD ?_ ?_ <;> intro h <;> simp (disch := omega) only [Sh.out h, go_sem, seval]
      ·simp only [Bool.not_eq_true'] at h;exact ⟨m ++ [17], hm.yes (by simp [h]) trivial, Weak.mk (by simp (disch := omega) only [Zy, Xm, go_sem, seval])⟩
      ·simp only [Bool.not_eq_false'] at h;exact ⟨m, hm.no (by simp [h]), Weak.mk (by simp (disch := omega) only [Zy, Xm, go_sem, seval])⟩
     ·clear hm hml;intro m hm;refine Zd [13] _ _ _ _ ?_;simp (disch := omega) only [Zy, Xm, go_sem, seval];have hml := hm.len;refine Zq [7] (fun m : List Int => [(8, .sl 2 0 m.length m.length)]) (fun m => Zy n ++ [Xm t, .elems 1 (m.map eI)]) (fun m => FR (fun _ => True) ((((((nameOk t.name = true) /\ (∀ j, j < i -> (nth l j).name ≠ t.name)) /\ rng t.count 0 10 = true) /\ (rng t.src 0 (n.places.length - 1) = true /\ rng t.dst 0 (n.places.length - 1) = true)) /\ WR t.cap (dimsOf l) = true) /\ rng t.skills 0 1073741823 = true) 6 m) ?_ ?_
      ·simp (disch := omega) only [go_sem, seval];refine (Yp t.skills 0 1073741823).use ?_;simp (disch := omega) only [go_sem, seval];refine cD ?_ ?_ <;> intro h0 <;> simp (disch := omega) only [Sh.out h0, go_sem, seval]
       ·simp only [Bool.not_eq_true'] at h0;exact ⟨m ++ [18], hm.yes (by simp [h0]) trivial, Weak.mk (by simp (disch := omega) only [Zy, Xm, go_sem, seval])⟩
       ·simp only [Bool.not_eq_false'] at h0;exact ⟨m, hm.no (by simp [h0]), Weak.mk (by simp (disch := omega) only [Zy, Xm, go_sem, seval])⟩
      ·clear hm hml;intro m hm;refine Zd [15] _ _ _ _ ?_;simp (disch := omega) only [Zy, Xm, go_sem, seval];have hml := hm.len;refine Zq [7] (fun m : List Int => [(8, .sl 2 0 m.length m.length)]) (fun m => Zy n ++ [Xm t, .elems 1 (m.map eI)]) (fun m => FR (fun _ => True) (((((((nameOk t.name = true) /\ (∀ j, j < i -> (nth l j).name ≠ t.name)) /\ rng t.count 0 10 = true) /\ (rng t.src 0 (n.places.length - 1) = true /\ rng t.dst 0 (n.places.length - 1) = true)) /\ WR t.cap (dimsOf l) = true) /\ rng t.skills 0 1073741823 = true) /\ (rng t.opn 0 t.cls = true /\ t.cls <= 4096)) 7 m) ?_ ?_
       ·simp (disch := omega) only [go_sem, seval];refine (Yp t.opn 0 t.cls).use ?_;simp (disch := omega) only [go_sem, seval];refine gF ?_ ?_ <;> intro h0 <;> simp (disch := omega) only [Sh.out h0, go_sem, seval]
        ·simp only [Bool.not_eq_true'] at h0;exact ⟨m ++ [15], hm.yes (by simp [h0]) trivial, Weak.mk (by simp (disch := omega) only [Zy, Xm, go_sem, seval])⟩
        ·simp only [Bool.not_eq_false'] at h0;refine cD ?_ ?_ <;> intro h1 <;> simp (disch := omega) only [Sh.out h1, go_sem, seval]
         ·exact ⟨m ++ [15], hm.yes (by omega) trivial, Weak.mk (by simp (disch := omega) only [Zy, Xm, go_sem, seval])⟩
         ·exact ⟨m, hm.no (by exact ⟨h0, by omega⟩), Weak.mk (by simp (disch := omega) only [Zy, Xm, go_sem, seval])⟩
       ·clear hm hml;intro m hm;refine Zd [17] _ _ _ _ ?_;simp (disch := omega) only [Zy, Xm, go_sem, seval];have hml := hm.len;refine Zq [7] (fun m : List Int => [(8, .sl 2 0 m.length m.length)]) (fun m => Zy n ++ [Xm t, .elems 1 (m.map eI)]) (fun m => FR (fun _ => True) ((((((((nameOk t.name = true) /\ (∀ j, j < i -> (nth l j).name ≠ t.name)) /\ rng t.count 0 10 = true) /\ (rng t.src 0 (n.places.length - 1) = true /\ rng t.dst 0 (n.places.length - 1) = true)) /\ WR t.cap (dimsOf l) = true) /\ rng t.skills 0 1073741823 = true) /\ (rng t.opn 0 t.cls = true /\ t.cls <= 4096)) /\ (rng t.drive 1 4096 = true /\ rng t.rest 0 4096 = true)) 8 m) ?_ ?_
        ·simp (disch := omega) only [go_sem, seval];refine (Yp t.drive 1 4096).use ?_;simp (disch := omega) only [go_sem, seval];refine gF ?_ ?_ <;> intro h0 <;> simp (disch := omega) only [Sh.out h0, go_sem, seval]
         ·simp only [Bool.not_eq_true'] at h0;exact ⟨m ++ [16], hm.yes (by simp [h0]) trivial, Weak.mk (by simp (disch := omega) only [Zy, Xm, go_sem, seval])⟩
         ·simp only [Bool.not_eq_false'] at h0;refine (Yp t.rest 0 4096).use ?_;simp (disch := omega) only [go_sem, seval];refine cD ?_ ?_ <;> intro h1 <;> simp (disch := omega) only [Sh.out h1, go_sem, seval]
          ·simp only [Bool.not_eq_true'] at h1;exact ⟨m ++ [16], hm.yes (by simp [h1]) trivial, Weak.mk (by simp (disch := omega) only [Zy, Xm, go_sem, seval])⟩
          ·simp only [Bool.not_eq_false'] at h1;exact ⟨m, hm.no (by simp [h0, h1]), Weak.mk (by simp (disch := omega) only [Zy, Xm, go_sem, seval])⟩
        ·clear hm hml;intro m hm;refine Zd [19] _ _ _ _ ?_;simp (disch := omega) only [Zy, Xm, go_sem, seval];have hml := hm.len;refine Zq [] (fun m : List Int => [(8, .sl 2 0 m.length m.length)]) (fun m => Zy n ++ [Xm t, .elems 1 (m.map eI)]) (fun m => FR (fun _ => True) (((((((((nameOk t.name = true) /\ (∀ j, j < i -> (nth l j).name ≠ t.name)) /\ rng t.count 0 10 = true) /\ (rng t.src 0 (n.places.length - 1) = true /\ rng t.dst 0 (n.places.length - 1) = true)) /\ WR t.cap (dimsOf l) = true) /\ rng t.skills 0 1073741823 = true) /\ (rng t.opn 0 t.cls = true /\ t.cls <= 4096)) /\ (rng t.drive 1 4096 = true /\ rng t.rest 0 4096 = true)) /\ (rng t.prof 0 7 = true /\ rng t.fixed 0 100000 = true /\ rng t.perMile 0 100 = true /\ rng t.perTick 0 100 = true)) 9 m) ?_ ?_
         ·simp (disch := omega) only [go_sem, seval];refine (Yp t.prof 0 7).use ?_;simp (disch := omega) only [go_sem, seval];refine gF ?_ ?_ <;> intro h0 <;> simp (disch := omega) only [Sh.out h0, go_sem, seval]
          ·simp only [Bool.not_eq_true'] at h0;exact ⟨m ++ [2], hm.yes (by simp [h0]) trivial, Weak.mk (by simp (disch := omega) only [Zy, Xm, go_sem, seval])⟩
          ·simp only [Bool.not_eq_false'] at h0;refine (Yp t.fixed 0 100000).use ?_;simp (disch := omega) only [go_sem, seval];refine gF ?_ ?_ <;> intro h1 <;> simp (disch := omega) only [Sh.out h1, go_sem, seval]
           ·simp only [Bool.not_eq_true'] at h1;exact ⟨m ++ [2], hm.yes (by simp [h1]) trivial, Weak.mk (by simp (disch := omega) only [Zy, Xm, go_sem, seval])⟩
           ·simp only [Bool.not_eq_false'] at h1;refine (Yp t.perMile 0 100).use ?_;simp (disch := omega) only [go_sem, seval];refine gF ?_ ?_ <;> intro h2 <;> simp (disch := omega) only [Sh.out h2, go_sem, seval]
            ·simp only [Bool.not_eq_true'] at h2;exact ⟨m ++ [2], hm.yes (by simp [h2]) trivial, Weak.mk (by simp (disch := omega) only [Zy, Xm, go_sem, seval])⟩
            ·simp only [Bool.not_eq_false'] at h2;refine (Yp t.perTick 0 100).use ?_;simp (disch := omega) only [go_sem, seval];refine cD ?_ ?_ <;> intro h3 <;> simp (disch := omega) only [Sh.out h3, go_sem, seval]
             ·simp only [Bool.not_eq_true'] at h3;exact ⟨m ++ [2], hm.yes (by simp [h3]) trivial, Weak.mk (by simp (disch := omega) only [Zy, Xm, go_sem, seval])⟩
             ·simp only [Bool.not_eq_false'] at h3;exact ⟨m, hm.no (by simp [h0, h1, h2, h3]), Weak.mk (by simp (disch := omega) only [Zy, Xm, go_sem, seval])⟩
         ·clear hm hml;intro m hm;refine Zd [] _ _ _ _ ?_;simp (disch := omega) only [Zy, Xm, go_sem, seval];have hml := hm.len;exact ⟨m, hm.to (by omega) (by rw [hty]), 2, by simp (disch := omega) only [Zy, Xm, go_sem, seval]⟩
def typesOk (n : Net) (l : List Typ) : Prop := rng l.length 1 6 = true /\ ∀ i, i < l.length -> QF n l i
theorem Zr7 (n : Net) (l : List Typ) (c : Bool) (hw : n.wf 1048576) (hl : l.length <= 1048576) (hlw : ∀ t ∈ l, t.wf 1048576) :
  ACalls Tryz.prog 97 [.p (ZcU n), .p (.list c (l.map QP))] [] fun x H' => ∃ m : List Flt, FR (pF 20) (typesOk n l) (1 + 9 * l.length) m /\ x = .sl 0 0 m.length m.length /\ H' = [.elems 2 (m.map eF)] := by
 refine ZB [2] Tryz.func97 rfl ZxC ?_;simp (disch := omega) only [Tryz.f97, go_sem, seval];refine Zn (Weak.ofNil 5 2 (by simp (disch := omega) only [go_sem, seval]) (by simp) (Weak.refl _ _ _)) ?_;refine Zq [1, 2] (fun m : List Flt => [(5, .sl 1 0 m.length m.length)]) (fun m => Zy n ++ [.elems 2 (m.map eF)]) (fun m => FR (pF 20) (rng l.length 1 6 = true) 1 m) ?_ ?_
 ·simp (disch := omega) only [go_sem, seval];refine (Yp l.length 1 6).use ?_;simp (disch := omega) only [go_sem, seval];refine cD ?_ ?_ <;> intro h <;> simp (disch := omega) only [Sh.out h, go_sem, seval]
  ·simp only [Bool.not_eq_true'] at h;exact ⟨[(4, [])], ⟨by simp, by simp [h], by simp [pF]⟩, Weak.mk (by simp (disch := omega) only [Zy, go_sem, seval])⟩
  ·simp only [Bool.not_eq_false'] at h;exact ⟨[], FR.nil h, Weak.mk (by simp (disch := omega) only [Zy, go_sem, seval])⟩
 ·intro m hm;refine Zd [] _ _ _ _ ?_;simp (disch := omega) only [Zy, go_sem, seval];refine Zf [1, 2] (fun q : Nat × List Flt => [(5, .sl 1 0 q.2.length q.2.length), (6, .p (.int .i64 q.1))]) (fun q => Zy n ++ [.elems 2 (q.2.map eF)]) (fun q => q.1 <= l.length /\ FR (pF 20) (rng l.length 1 6 = true /\ ∀ j, j < q.1 -> QF n l j) (1 + 9 * q.1) q.2) (fun q => l.length - q.1) (0, m) ⟨by simp, hm.to (by simp) (by simp)⟩ (Weak.mk ?_) ?_
  ·simp (disch := omega) only [Zy, go_sem, seval]
  ·clear hm;rintro ⟨k, m⟩ ⟨hk, hm⟩;simp only at hk hm;have hml := hm.len;simp (disch := omega) only [Zy, go_sem, seval];refine cD ?_ ?_ <;> intro h <;> simp (disch := omega) only [Sh.out h, go_sem, seval]
   ·have hk2 : k < l.length := by omega
    have hI : I64 (k : Int) := by omega
    have hdl := Ww k hI;refine ((Zec n l c k hk2 hl hw (hlw _ (Zl hk2))).frozenE).useV fun e he => ?_;simp (disch := omega) only [go_sem, seval];have hel := he.len;refine Zf [1, 2, 6, 7] (fun q : Nat × List Flt => [(5, .sl 1 0 q.2.length q.2.length), (8, .p (.int .i64 q.1))]) (fun q => Zy n ++ [.elems 2 (q.2.map eF)]) (fun q => q.1 <= e.length /\ FR (pF 20) ((rng l.length 1 6 = true /\ ∀ j, j < k -> QF n l j) /\ q.1 = 0) (1 + 9 * k + q.1) q.2) (fun q => e.length - q.1) (0, m) ⟨by simp, hm.to (by simp) (by simp)⟩ (Weak.mk ?_) ?_
    ·simp (disch := omega) only [Zy, go_sem, seval]
    ·clear hm hml;rintro ⟨j, m⟩ ⟨hj, hm⟩;simp only at hj hm;have hml := hm.len;simp (disch := omega) only [Zy, go_sem, seval];refine cD ?_ ?_ <;> intro h2 <;> simp (disch := omega) only [Sh.out h2, go_sem, seval]
     ·have hj2 : j < e.length := by omega
      refine ZA 9 mixed (by kernel_rfl) (by kernel_rfl) ?_;simp (disch := omega) only [go_sem, seval];refine Zm (V5 k hI) ?_;simp (disch := omega) only [go_sem, seval];exact ⟨(j + 1, m ++ [(nth e j, ZaH k)]), ⟨by simp only; omega, (hm.yes (c := False) (by simp) (by simpa [pF] using hdl)).to (by simp only; omega) (by simp)⟩, by simp only; omega, Weak.mk (by simp (disch := omega) only [Zy, go_sem, seval])⟩
     ·have hjl : j = e.length := by omega
      subst hjl;exact ⟨(k + 1, m), ⟨by simp only; omega, hm.to (by simp only; omega) (by simp only [Zh, and_assoc]; rw [<- he.emp, List.eq_nil_iff_length_eq_zero])⟩, by simp only; omega, Weak.mk (by simp (disch := omega) only [Zy, go_sem, seval])⟩
   ·have hkn : k = l.length := by omega
    subst hkn;exact ⟨m, hm.to (by omega) (by rw [typesOk]), 1, by simp (disch := omega) only [Zy, go_sem, seval]⟩
theorem K0 (n lo hi : Int) : PC 208 [.p (.int .i64 n), .p (.int .i64 lo), .p (.int .i64 hi)] (.bool (rng n lo hi)) := by
 refine Za Tryz.func208 rfl ZsR ?_;simp (disch := omega) only [Tryz.f208, go_sem, seval];refine gT ?_ ?_ <;> intro h <;> simp (disch := omega) only [Sh.out h, go_sem, seval]
 all_goals (simp [rng]; first | done | omega | (rw [Bool.eq_iff_iff]; simp; omega))
def loadOk (l : List Int) (d : Int) : Bool := decide ((l.length : Int) = d) && l.all fun n => rng n 0 1000
theorem Zej (l : List Int) (c : Bool) (d : Int) (hl : l.length <= 1048576) : PC 207 [.p (.list c (l.map eI)), .p (.int .i64 d)] (.bool (loadOk l d)) := by
 refine Za Tryz.func207 rfl ZpG ?_;simp (disch := omega) only [Tryz.f207, go_sem, seval];refine cD ?_ ?_ <;> intro h2 <;> simp (disch := omega) only [Sh.out h2, go_sem, seval]
 ·simp [loadOk, h2]
 ·simp only [Classical.not_not] at h2;subst h2;refine Zf [0] (fun k : Nat => [(5, .p (.int .i64 k))]) (fun _ => []) (fun k => k <= l.length /\ ∀ j, j < k -> rng (nth l j) 0 1000 = true) (fun k => l.length - k) 0 (by simp) (Weak.mk ?_) ?_
  ·simp (disch := omega) only [go_sem, seval]
  ·rintro k ⟨hk, hno⟩;simp (disch := omega) only [go_sem, seval];refine cD ?_ ?_ <;> intro h3 <;> simp (disch := omega) only [Sh.out h3, go_sem, seval]
   ·have hk2 : k < l.length := by omega
    have hbad : rng (nth l k) 0 1000 = false -> loadOk l l.length = false := fun h4 => by
     have : l.all (fun n => rng n 0 1000) = false := by
      rw [List.all_eq_false]; exact ⟨nth l k, Zl hk2, by rw [h4]; simp⟩
     simp [loadOk, this]
    repeat' (first | (refine ZR (fun hq => ?_) (fun hq => ?_) <;> (try simp only [decide_eq_true_eq, decide_eq_false_iff_not, Classical.not_not] at hq) <;> simp (disch := omega) only [Sh.out hq, go_sem, seval]) | (refine ZS (fun hq => ?_) (fun hq => ?_) <;> (try simp only [decide_eq_true_eq, decide_eq_false_iff_not, Classical.not_not] at hq) <;> simp (disch := omega) only [Sh.out hq, go_sem, seval]) | (refine Xc (fun hq => ?_) (fun hq => ?_) <;> (try simp only [decide_eq_true_eq, decide_eq_false_iff_not, Classical.not_not] at hq) <;> simp (disch := omega) only [Sh.out hq, go_sem, seval]))
    all_goals first
     | (rw [hbad (by simp [rng]; omega)])
     | exact ⟨k + 1, ⟨by omega, Zh.2 ⟨hno, by simp [rng]; omega⟩⟩, by omega, wk⟩
   ·have : l.all (fun n => rng n 0 1000) = true := by
     rw [List.all_eq_true];intro x hx;obtain ⟨j, hj, rfl⟩ := List.mem_iff_getElem.1 hx;rw [<- Ze hj]; exact hno j (by omega)
    simp [loadOk, this]
def stpOk (s : Stp) : Bool := decide ((s.place = -1 /\ s.opn = 0 /\ s.cls = 0 /\ s.serv = 0) \/ (0 <= s.place /\ 0 <= s.opn /\ s.opn <= s.cls /\ s.cls <= 4096 /\ 0 <= s.serv /\ s.serv <= 4096))
def ZmT (s : Stp) : Int := if stpOk s = true then 0 else 2
theorem Zj3 (s : Stp) : PC 209 [.p (ZhB s)] (.int .i64 (ZmT s)) := by
 refine Za Tryz.func209 rfl ZsM ?_;simp (disch := omega) only [Tryz.f209, go_sem, seval]
 repeat' (first | (refine ZR (fun hq => ?_) (fun hq => ?_) <;> (try simp only [decide_eq_true_eq, decide_eq_false_iff_not, Classical.not_not] at hq) <;> simp (disch := omega) only [Sh.out hq, go_sem, seval]) | (refine ZS (fun hq => ?_) (fun hq => ?_) <;> (try simp only [decide_eq_true_eq, decide_eq_false_iff_not, Classical.not_not] at hq) <;> simp (disch := omega) only [Sh.out hq, go_sem, seval]) | (refine Xc (fun hq => ?_) (fun hq => ?_) <;> (try simp only [decide_eq_true_eq, decide_eq_false_iff_not, Classical.not_not] at hq) <;> simp (disch := omega) only [Sh.out hq, go_sem, seval]))
 all_goals (simp only [ZmT, stpOk, decide_eq_true_eq])
 all_goals first
  | (exfalso; omega)
  | (rw [if_pos (by omega)])
  | (rw [if_neg (by omega)])
def XI (l : List Ord) (i : Nat) : Bool := (List.range i).all fun j => decide ((nth l j).name ≠ (nth l i).name)
theorem WY {l : List Ord} {i : Nat} : XI l i = true ↔ ∀ j, j < i -> (nth l j).name ≠ (nth l i).name := by simp [XI]
def sel (b : Bool) (e : Int) : List Int := if b = true then [] else [e]
theorem YV (b : Bool) (e : Int) : (sel b e).length <= 1 := by unfold sel; split <;> simp
theorem Wk {b : Bool} {e : Int} {m p : List Int} (h : m = p) (hb : b = true) : m = p ++ sel b e := by simp [sel, hb, h]
theorem Y1 {b : Bool} {e : Int} {m p : List Int} (h : m = p) (hb : b = false) : m ++ [e] = p ++ sel b e := by simp [sel, hb, h]
def Yk (t : Ord) : AM.Obj := .cells [.p (.str t.name), .p (.list t.load_c (t.load.map eI)), .p (.int .i64 t.pick.place), .p (.int .i64 t.pick.opn), .p (.int .i64 t.pick.cls), .p (.int .i64 t.pick.serv), .p (.int .i64 t.drp.place), .p (.int .i64 t.drp.opn), .p (.int .i64 t.drp.cls), .p (.int .i64 t.drp.serv), .p (.int .i64 t.skills), .p (.int .i64 t.penalty), .p (.int .i64 t.split), .p (.int .i64 t.last), .p (.int .i64 t.now), .p (.bool t.off)]
def Zck (t : Ord) : Bool := decide (t.pick.place ≠ -1) && decide (t.drp.place ≠ -1)
def argOk (t : Ord) (ty : Int) : Bool := rng t.penalty (-1) 1000000 && rng t.split 1 4 && decide (¬ (1 < t.split /\ Zck t = true) /\ -1 <= t.last /\ t.last < ty /\ -1 <= t.now /\ t.now < ty)
def Xy (np : Nat) (d ty : Int) (l : List Ord) (i : Nat) : List Int := sel (nameOk (nth l i).name) 5 ++ sel (XI l i) 6 ++ sel (loadOk (nth l i).load d) 17 ++ sel ((rng (nth l i).pick.place (-1) ((np : Int) - 1) && rng (nth l i).drp.place (-1) ((np : Int) - 1))) 11 ++ sel (decide (¬ ((nth l i).pick.place = -1 /\ (nth l i).drp.place = -1))) 19 ++ sel ((stpOk (nth l i).pick && stpOk (nth l i).drp)) 14 ++ sel (rng (nth l i).skills 0 1073741823) 18 ++ sel (argOk (nth l i) ty) 2
theorem Ut (np : Nat) (d ty : Int) (l : List Ord) (i : Nat) : (Xy np d ty l i).length <= 8 := by
 have h := YV;simp only [Xy, List.length_append];have h1 := fun b => h b 5;have h2 := fun b => h b 6;have h3 := fun b => h b 17;have h4 := fun b => h b 11;have h5 := fun b => h b 19;have h6 := fun b => h b 14;have h7 := fun b => h b 18;have h8 := fun b => h b 2;have a1 := h1 (nameOk (nth l i).name);have a2 := h2 (XI l i);have a3 := h3 (loadOk (nth l i).load d);have a4 := h4 (rng (nth l i).pick.place (-1) ((np : Int) - 1) && rng (nth l i).drp.place (-1) ((np : Int) - 1));have a5 := h5 (decide (¬ ((nth l i).pick.place = -1 /\ (nth l i).drp.place = -1)));have a6 := h6 (stpOk (nth l i).pick && stpOk (nth l i).drp)
 have a7 := h7 (rng (nth l i).skills 0 1073741823);have a8 := h8 (argOk (nth l i) ty);omega
theorem Zft (np : Nat) (d ty : Int) (l : List Ord) (c : Bool) (i : Nat) (hi : i < l.length) (hl : l.length <= 1048576) (hnp : np <= 1048576) (ht : (nth l i).wf 1048576) :
  ACalls Tryz.prog 148 [.p (.int .i64 (np : Nat)), .p (.int .i64 d), .p (.int .i64 ty), .p (.list c (l.map QJ)), .p (.int .i64 (i : Nat))] [] fun x H' => x = .sl 0 0 (Xy np d ty l i).length (Xy np d ty l i).length /\ H' = [.elems 1 ((Xy np d ty l i).map eI)] := by
 suffices hh : ACalls Tryz.prog 148 [.p (.int .i64 (np : Nat)), .p (.int .i64 d), .p (.int .i64 ty), .p (.list c (l.map QJ)), .p (.int .i64 (i : Nat))] [] fun x H' => ∃ m : List Int, m = Xy np d ty l i /\ x = .sl 0 0 m.length m.length /\ H' = [.elems 1 (m.map eI)] by
  refine hh.mono ?_;rintro x H' ⟨m, rfl, h1, h2⟩;exact ⟨h1, h2⟩
 refine ZB [3] Tryz.func148 rfl Zqk ?_;simp (disch := omega) only [Tryz.f148, go_sem, seval];have hty : Xy np d ty l i = sel (nameOk (nth l i).name) 5 ++ sel (XI l i) 6 ++ sel (loadOk (nth l i).load d) 17 ++ sel ((rng (nth l i).pick.place (-1) ((np : Int) - 1) && rng (nth l i).drp.place (-1) ((np : Int) - 1))) 11 ++ sel (decide (¬ ((nth l i).pick.place = -1 /\ (nth l i).drp.place = -1))) 19 ++ sel ((stpOk (nth l i).pick && stpOk (nth l i).drp)) 14 ++ sel (rng (nth l i).skills 0 1073741823) 18 ++ sel (argOk (nth l i) ty) 2 := rfl
 have hleng : ∀ m : List Int, ∀ p : List Int, m = p -> p.length <= 8 -> m.length <= 8 := fun m p h1 h2 => by rw [h1]; exact h2
 generalize hga : nth l i = t at ht hty ⊢;have hname := ht.1;have hload := ht.2.1;refine Zn (Weak.ofNil 11 1 (by simp (disch := omega) only [go_sem, seval]) (by simp) (Weak.refl _ _ _)) ?_;refine Zq [0, 1, 2, 3, 4, 12] (fun m : List Int => [(11, .sl 1 0 m.length m.length)]) (fun m => [Yk t, .elems 1 (m.map eI)]) (fun m => m = sel (nameOk t.name) 5) ?_ ?_
 ·simp (disch := omega) only [go_sem, seval];refine (ZeH t.name hname).use ?_;simp (disch := omega) only [go_sem, seval];refine cD ?_ ?_ <;> intro h <;> simp (disch := omega) only [Sh.out h, go_sem, seval]
  ·simp only [Bool.not_eq_true'] at h;exact ⟨[5], by simp [sel, h], Weak.mk (by simp (disch := omega) only [Yk, go_sem, seval])⟩
  ·simp only [Bool.not_eq_false'] at h;exact ⟨[], by simp [sel, h], Weak.mk (by simp (disch := omega) only [Yk, go_sem, seval])⟩
 ·skip
  intro m hm;refine Zd [5] _ _ _ _ ?_;simp (disch := omega) only [Yk, go_sem, seval]
  have hml : m.length <= 8 := by
   rw [hm]
   try simp only [List.length_append]
   have h := YV;have a0 := h (nameOk t.name) 5;omega
  refine Zq [0, 1, 2, 12] (fun m : List Int => [(11, .sl 1 0 m.length m.length)]) (fun m => [Yk t, .elems 1 (m.map eI)]) (fun m => m = sel (nameOk t.name) 5 ++ sel (XI l i) 6) ?_ ?_
  ·simp (disch := omega) only [go_sem, seval];refine Zf [0, 1, 2, 3, 4, 11, 12] (fun k : Nat => [(13, .p (.int .i64 k))]) (fun _ => [Yk t, .elems 1 (m.map eI)]) (fun k => k <= i /\ ∀ j, j < k -> (nth l j).name ≠ (nth l i).name) (fun k => i - k) 0 (by simp) (Weak.mk ?_) ?_
   ·simp (disch := omega) only [Yk, go_sem, seval]
   ·rintro k ⟨hk, hno⟩;simp (disch := omega) only [Yk, go_sem, seval];refine cD ?_ ?_ <;> intro h3 <;> simp (disch := omega) only [Sh.out h3, go_sem, seval]
    ·have hk2 : k < l.length := by omega
     refine Zi mixed (by kernel_rfl) (by kernel_rfl) ?_;simp (disch := omega) only [go_sem, seval];refine cD ?_ ?_ <;> intro h4 <;> simp (disch := omega) only [Sh.out h4, go_sem, seval]
     ·exact ⟨m ++ [6], Y1 hm (by cases hq : XI l i with | false => rfl | true => exact absurd (by rw [hga]; exact h4) (WY.1 hq k (by omega))), Weak.mk (by simp (disch := omega) only [Yk, go_sem, seval])⟩
     ·exact ⟨k + 1, ⟨by omega, Zh.2 ⟨hno, by rw [hga]; exact h4⟩⟩, by omega, Weak.mk (by simp (disch := omega) only [Yk, go_sem, seval])⟩
    ·have hki : k = i := by omega
     subst hki;exact ⟨m, Wk hm (WY.2 hno), Weak.mk (by simp (disch := omega) only [Yk, go_sem, seval])⟩
  ·clear hm hml;intro m hm;refine Zd [10] _ _ _ _ ?_;simp (disch := omega) only [Yk, go_sem, seval]
   have hml : m.length <= 8 := by
    rw [hm]
    try simp only [List.length_append]
    have h := YV;have a0 := h (nameOk t.name) 5;have a1 := h (XI l i) 6;omega
   refine Zq [0, 2, 12] (fun m : List Int => [(11, .sl 1 0 m.length m.length)]) (fun m => [Yk t, .elems 1 (m.map eI)]) (fun m => m = sel (nameOk t.name) 5 ++ sel (XI l i) 6 ++ sel (loadOk t.load d) 17) ?_ ?_
   ·simp (disch := omega) only [go_sem, seval];refine (Zej t.load t.load_c d hload).use ?_;simp (disch := omega) only [go_sem, seval];refine cD ?_ ?_ <;> intro h <;> simp (disch := omega) only [Sh.out h, go_sem, seval]
    ·simp only [Bool.not_eq_true'] at h;exact ⟨m ++ [17], Y1 hm (h), Weak.mk (by simp (disch := omega) only [Yk, go_sem, seval])⟩
    ·simp only [Bool.not_eq_false'] at h;exact ⟨m, Wk hm (h), Weak.mk (by simp (disch := omega) only [Yk, go_sem, seval])⟩
   ·clear hm hml;intro m hm;refine Zd [12] _ _ _ _ ?_;simp (disch := omega) only [Yk, go_sem, seval]
    have hml : m.length <= 8 := by
     rw [hm]
     try simp only [List.length_append]
     have h := YV;have a0 := h (nameOk t.name) 5;have a1 := h (XI l i) 6;have a2 := h (loadOk t.load d) 17;omega
    refine Zq [2, 12] (fun m : List Int => [(11, .sl 1 0 m.length m.length)]) (fun m => [Yk t, .elems 1 (m.map eI)]) (fun m => m = sel (nameOk t.name) 5 ++ sel (XI l i) 6 ++ sel (loadOk t.load d) 17 ++ sel ((rng t.pick.place (-1) ((np : Int) - 1) && rng t.drp.place (-1) ((np : Int) - 1))) 11) ?_ ?_
    ·simp (disch := omega) only [go_sem, seval];refine (K0 t.pick.place (-1) ((np : Int) - 1)).use ?_;simp (disch := omega) only [go_sem, seval];refine gF ?_ ?_ <;> intro h <;> simp (disch := omega) only [Sh.out h, go_sem, seval]
     ·simp only [Bool.not_eq_true'] at h;exact ⟨m ++ [11], Y1 hm (by simp [h]), Weak.mk (by simp (disch := omega) only [Yk, go_sem, seval])⟩
     ·simp only [Bool.not_eq_false'] at h;refine (K0 t.drp.place (-1) ((np : Int) - 1)).use ?_;simp (disch := omega) only [go_sem, seval];refine cD ?_ ?_ <;> intro h2 <;> simp (disch := omega) only [Sh.out h2, go_sem, seval]
      ·simp only [Bool.not_eq_true'] at h2;exact ⟨m ++ [11], Y1 hm (by simp [h2]), Weak.mk (by simp (disch := omega) only [Yk, go_sem, seval])⟩
      ·simp only [Bool.not_eq_false'] at h2;exact ⟨m, Wk hm (by simp [h, h2]), Weak.mk (by simp (disch := omega) only [Yk, go_sem, seval])⟩
    ·clear hm hml;intro m hm;refine Zd [14] _ _ _ _ ?_;simp (disch := omega) only [Yk, go_sem, seval]
     have hml : m.length <= 8 := by
      rw [hm]
      try simp only [List.length_append]
      have h := YV;have a0 := h (nameOk t.name) 5;have a1 := h (XI l i) 6;have a2 := h (loadOk t.load d) 17;have a3 := h ((rng t.pick.place (-1) ((np : Int) - 1) && rng t.drp.place (-1) ((np : Int) - 1))) 11;omega
     refine Zq [2, 12] (fun m : List Int => [(11, .sl 1 0 m.length m.length)]) (fun m => [Yk t, .elems 1 (m.map eI)]) (fun m => m = sel (nameOk t.name) 5 ++ sel (XI l i) 6 ++ sel (loadOk t.load d) 17 ++ sel ((rng t.pick.place (-1) ((np : Int) - 1) && rng t.drp.place (-1) ((np : Int) - 1))) 11 ++ sel (decide (¬ (t.pick.place = -1 /\ t.drp.place = -1))) 19) ?_ ?_
     ·simp (disch := omega) only [go_sem, seval]
      repeat' (first | (refine ZR (fun hq => ?_) (fun hq => ?_) <;> (try simp only [decide_eq_true_eq, decide_eq_false_iff_not, Classical.not_not] at hq) <;> simp (disch := omega) only [Sh.out hq, go_sem, seval]) | (refine ZS (fun hq => ?_) (fun hq => ?_) <;> (try simp only [decide_eq_true_eq, decide_eq_false_iff_not, Classical.not_not] at hq) <;> simp (disch := omega) only [Sh.out hq, go_sem, seval]) | (refine Xc (fun hq => ?_) (fun hq => ?_) <;> (try simp only [decide_eq_true_eq, decide_eq_false_iff_not, Classical.not_not] at hq) <;> simp (disch := omega) only [Sh.out hq, go_sem, seval]))
      all_goals first
       | exact ⟨m ++ [19], Y1 hm (by first | (simp; done) | (simp; omega)), Weak.mk (by simp (disch := omega) only [Yk, go_sem, seval])⟩
       | exact ⟨m, Wk hm (by first | (simp; done) | (simp; omega)), Weak.mk (by simp (disch := omega) only [Yk, go_sem, seval])⟩
     ·clear hm hml;intro m hm;refine Zd [16] _ _ _ _ ?_;simp (disch := omega) only [Yk, go_sem, seval]
      have hml : m.length <= 8 := by
       rw [hm]
       try simp only [List.length_append]
       have h := YV;have a0 := h (nameOk t.name) 5;have a1 := h (XI l i) 6;have a2 := h (loadOk t.load d) 17;have a3 := h ((rng t.pick.place (-1) ((np : Int) - 1) && rng t.drp.place (-1) ((np : Int) - 1))) 11;have a4 := h (decide (¬ (t.pick.place = -1 /\ t.drp.place = -1))) 19;omega
      refine Zq [2, 12] (fun m : List Int => [(11, .sl 1 0 m.length m.length)]) (fun m => [Yk t, .elems 1 (m.map eI)]) (fun m => m = sel (nameOk t.name) 5 ++ sel (XI l i) 6 ++ sel (loadOk t.load d) 17 ++ sel ((rng t.pick.place (-1) ((np : Int) - 1) && rng t.drp.place (-1) ((np : Int) - 1))) 11 ++ sel (decide (¬ (t.pick.place = -1 /\ t.drp.place = -1))) 19 ++ sel ((stpOk t.pick && stpOk t.drp)) 14) ?_ ?_
      ·simp (disch := omega) only [go_sem, seval];refine (Zj3 t.pick).use ?_;simp (disch := omega) only [go_sem, seval]
       cases h : stpOk t.pick with
       | false =>
        simp (disch := omega) only [ZmT, h, go_sem, seval];exact ⟨m ++ [14], Y1 hm (by simp [h]), Weak.mk (by simp (disch := omega) only [Yk, go_sem, seval])⟩
       | true =>
        simp (disch := omega) only [ZmT, h, go_sem, seval];refine (Zj3 t.drp).use ?_;simp (disch := omega) only [go_sem, seval]
        cases h2 : stpOk t.drp with
        | false =>
         simp (disch := omega) only [ZmT, h2, go_sem, seval];exact ⟨m ++ [14], Y1 hm (by simp [h2]), Weak.mk (by simp (disch := omega) only [Yk, go_sem, seval])⟩
        | true =>
         simp (disch := omega) only [ZmT, h2, go_sem, seval];exact ⟨m, Wk hm (by simp [h, h2]), Weak.mk (by simp (disch := omega) only [Yk, go_sem, seval])⟩
      ·clear hm hml;intro m hm;refine Zd [18] _ _ _ _ ?_;simp (disch := omega) only [Yk, go_sem, seval]
       have hml : m.length <= 8 := by
        rw [hm]
        try simp only [List.length_append]
        have h := YV;have a0 := h (nameOk t.name) 5;have a1 := h (XI l i) 6;have a2 := h (loadOk t.load d) 17;have a3 := h ((rng t.pick.place (-1) ((np : Int) - 1) && rng t.drp.place (-1) ((np : Int) - 1))) 11;have a4 := h (decide (¬ (t.pick.place = -1 /\ t.drp.place = -1))) 19;have a5 := h ((stpOk t.pick && stpOk t.drp)) 14;omega
       refine Zq [2, 12] (fun m : List Int => [(11, .sl 1 0 m.length m.length)]) (fun m => [Yk t, .elems 1 (m.map eI)]) (fun m => m = sel (nameOk t.name) 5 ++ sel (XI l i) 6 ++ sel (loadOk t.load d) 17 ++ sel ((rng t.pick.place (-1) ((np : Int) - 1) && rng t.drp.place (-1) ((np : Int) - 1))) 11 ++ sel (decide (¬ (t.pick.place = -1 /\ t.drp.place = -1))) 19 ++ sel ((stpOk t.pick && stpOk t.drp)) 14 ++ sel (rng t.skills 0 1073741823) 18) ?_ ?_
       ·simp (disch := omega) only [go_sem, seval];refine (K0 t.skills 0 1073741823).use ?_;simp (disch := omega) only [go_sem, seval];refine cD ?_ ?_ <;> intro h <;> simp (disch := omega) only [Sh.out h, go_sem, seval]
        ·simp only [Bool.not_eq_true'] at h;exact ⟨m ++ [18], Y1 hm (h), Weak.mk (by simp (disch := omega) only [Yk, go_sem, seval])⟩
        ·simp only [Bool.not_eq_false'] at h;exact ⟨m, Wk hm (h), Weak.mk (by simp (disch := omega) only [Yk, go_sem, seval])⟩
       ·clear hm hml;intro m hm;refine Zd [20] _ _ _ _ ?_;simp (disch := omega) only [Yk, go_sem, seval]
        have hml : m.length <= 8 := by
         rw [hm]
         try simp only [List.length_append]
         have h := YV;have a0 := h (nameOk t.name) 5;have a1 := h (XI l i) 6;have a2 := h (loadOk t.load d) 17;have a3 := h ((rng t.pick.place (-1) ((np : Int) - 1) && rng t.drp.place (-1) ((np : Int) - 1))) 11;have a4 := h (decide (¬ (t.pick.place = -1 /\ t.drp.place = -1))) 19;have a5 := h ((stpOk t.pick && stpOk t.drp)) 14;have a6 := h (rng t.skills 0 1073741823) 18;omega
        refine Zq [2, 11, 12] (fun b : Bool => [(14, .p (.bool b))]) (fun _ => [Yk t, .elems 1 (m.map eI)]) (fun b => b = Zck t) ?_ ?_
        ·simp (disch := omega) only [go_sem, seval]
         repeat' (first | (refine ZR (fun hq => ?_) (fun hq => ?_) <;> (try simp only [decide_eq_true_eq, decide_eq_false_iff_not, Classical.not_not] at hq) <;> simp (disch := omega) only [Sh.out hq, go_sem, seval]) | (refine ZS (fun hq => ?_) (fun hq => ?_) <;> (try simp only [decide_eq_true_eq, decide_eq_false_iff_not, Classical.not_not] at hq) <;> simp (disch := omega) only [Sh.out hq, go_sem, seval]) | (refine Xc (fun hq => ?_) (fun hq => ?_) <;> (try simp only [decide_eq_true_eq, decide_eq_false_iff_not, Classical.not_not] at hq) <;> simp (disch := omega) only [Sh.out hq, go_sem, seval]))
         all_goals refine ⟨Zck t, rfl, Weak.mk ?_⟩
         all_goals (simp (disch := omega) only [Yk, go_sem, seval]; simp [Zck, *])
        ·rintro b hb;refine Zd [21] _ _ _ _ ?_;simp (disch := omega) only [Yk, go_sem, seval];refine Zq [] (fun m : List Int => [(11, .sl 1 0 m.length m.length)]) (fun m => [Yk t, .elems 1 (m.map eI)]) (fun m => m = sel (nameOk t.name) 5 ++ sel (XI l i) 6 ++ sel (loadOk t.load d) 17 ++ sel ((rng t.pick.place (-1) ((np : Int) - 1) && rng t.drp.place (-1) ((np : Int) - 1))) 11 ++ sel (decide (¬ (t.pick.place = -1 /\ t.drp.place = -1))) 19 ++ sel ((stpOk t.pick && stpOk t.drp)) 14 ++ sel (rng t.skills 0 1073741823) 18 ++ sel (argOk t ty) 2) ?_ ?_
         ·simp (disch := omega) only [go_sem, seval];refine (K0 t.penalty (-1) 1000000).use ?_;simp (disch := omega) only [go_sem, seval];refine gF ?_ ?_ <;> intro h <;> simp (disch := omega) only [Sh.out h, go_sem, seval]
          ·simp only [Bool.not_eq_true'] at h;exact ⟨m ++ [2], Y1 hm (by simp [argOk, h]), Weak.mk (by simp (disch := omega) only [Yk, go_sem, seval])⟩
          ·simp only [Bool.not_eq_false'] at h;refine (K0 t.split 1 4).use ?_;simp (disch := omega) only [go_sem, seval];refine gF ?_ ?_ <;> intro h2 <;> simp (disch := omega) only [Sh.out h2, go_sem, seval]
           ·simp only [Bool.not_eq_true'] at h2;exact ⟨m ++ [2], Y1 hm (by simp [argOk, h2]), Weak.mk (by simp (disch := omega) only [Yk, go_sem, seval])⟩
           ·simp only [Bool.not_eq_false'] at h2
            cases b with
            | true =>
             repeat' (first | (refine ZR (fun hq => ?_) (fun hq => ?_) <;> (try simp only [decide_eq_true_eq, decide_eq_false_iff_not, Classical.not_not] at hq) <;> simp (disch := omega) only [Sh.out hq, go_sem, seval]) | (refine ZS (fun hq => ?_) (fun hq => ?_) <;> (try simp only [decide_eq_true_eq, decide_eq_false_iff_not, Classical.not_not] at hq) <;> simp (disch := omega) only [Sh.out hq, go_sem, seval]) | (refine Xc (fun hq => ?_) (fun hq => ?_) <;> (try simp only [decide_eq_true_eq, decide_eq_false_iff_not, Classical.not_not] at hq) <;> simp (disch := omega) only [Sh.out hq, go_sem, seval]))
             all_goals first
              | exact ⟨m ++ [2], Y1 hm (by rw [argOk, <- hb]; first | (simp; done) | (simp; omega)), Weak.mk (by simp (disch := omega) only [Yk, go_sem, seval])⟩
              | exact ⟨m, Wk hm (by rw [argOk, <- hb, h, h2]; first | (simp; done) | (simp; omega)), Weak.mk (by simp (disch := omega) only [Yk, go_sem, seval])⟩
            | false =>
             repeat' (first | (refine ZR (fun hq => ?_) (fun hq => ?_) <;> (try simp only [decide_eq_true_eq, decide_eq_false_iff_not, Classical.not_not] at hq) <;> simp (disch := omega) only [Sh.out hq, go_sem, seval]) | (refine ZS (fun hq => ?_) (fun hq => ?_) <;> (try simp only [decide_eq_true_eq, decide_eq_false_iff_not, Classical.not_not] at hq) <;> simp (disch := omega) only [Sh.out hq, go_sem, seval]) | (refine Xc (fun hq => ?_) (fun hq => ?_) <;> (try simp only [decide_eq_true_eq, decide_eq_false_iff_not, Classical.not_not] at hq) <;> simp (disch := omega) only [Sh.out hq, go_sem, seval]))
             all_goals first
              | exact ⟨m ++ [2], Y1 hm (by rw [argOk, <- hb]; first | (simp; done) | (simp; omega)), Weak.mk (by simp (disch := omega) only [Yk, go_sem, seval])⟩
              | exact ⟨m, Wk hm (by rw [argOk, <- hb, h, h2]; first | (simp; done) | (simp; omega)), Weak.mk (by simp (disch := omega) only [Yk, go_sem, seval])⟩
         ·clear hm hml;intro m hm;refine Zd [] _ _ _ _ ?_;simp (disch := omega) only [Yk, go_sem, seval]
          have hml : m.length <= 8 := by
           rw [hm]
           try simp only [List.length_append]
           have h := YV;have a0 := h (nameOk t.name) 5;have a1 := h (XI l i) 6;have a2 := h (loadOk t.load d) 17;have a3 := h ((rng t.pick.place (-1) ((np : Int) - 1) && rng t.drp.place (-1) ((np : Int) - 1))) 11;have a4 := h (decide (¬ (t.pick.place = -1 /\ t.drp.place = -1))) 19;have a5 := h ((stpOk t.pick && stpOk t.drp)) 14;have a6 := h (rng t.skills 0 1073741823) 18;have a7 := h (argOk t ty) 2;omega
          exact ⟨m, by rw [hm, hty], 1, by simp (disch := omega) only [Yk, go_sem, seval]⟩
def Z1 (np : Nat) (d ty : Int) (l : List Ord) (k : Nat) : List Flt := (if l.length <= 10 then [] else [(4, [])]) ++ (List.range k).flatMap fun i => (Xy np d ty l i).map fun e => (e, ZaH i)
theorem Ug (np : Nat) (d ty : Int) (l : List Ord) (k : Nat) : Z1 np d ty l (k + 1) = Z1 np d ty l k ++ (Xy np d ty l k).map fun e => (e, ZaH k) := by
 simp [Z1, List.range_succ]
theorem YW (np : Nat) (d ty : Int) (l : List Ord) : ∀ k, (Z1 np d ty l k).length <= 1 + 8 * k
 | 0 => by simp [Z1]; split <;> simp
 | k + 1 => by
  have h1 := YW np d ty l k;have h2 := Ut np d ty l k;rw [Ug];simp;omega
theorem Zr5 (n : Net) (d ty : Int) (l : List Ord) (c : Bool) (hw : n.wf 1048576) (hl : l.length <= 1048576) (hlw : ∀ t ∈ l, t.wf 1048576) :
  ACalls Tryz.prog 98 [.p (ZcU n), .p (.int .i64 d), .p (.int .i64 ty), .p (.list c (l.map QJ))] [] fun x H' => x = .sl 0 0 (Z1 n.places.length d ty l l.length).length (Z1 n.places.length d ty l l.length).length /\ H' = [.elems 2 ((Z1 n.places.length d ty l l.length).map eF)] := by
 obtain ⟨w1, w2, w3, w4⟩ := hw
 suffices hh : ACalls Tryz.prog 98 [.p (ZcU n), .p (.int .i64 d), .p (.int .i64 ty), .p (.list c (l.map QJ))] [] fun x H' => ∃ m : List Flt, m = Z1 n.places.length d ty l l.length /\ x = .sl 0 0 m.length m.length /\ H' = [.elems 2 (m.map eF)] by
  refine hh.mono ?_;rintro x H' ⟨m, rfl, h1, h2⟩;exact ⟨h1, h2⟩
 refine ZB [2] Tryz.func98 rfl Zwp ?_;simp (disch := omega) only [Tryz.f98, go_sem, seval];refine Zn (Weak.ofNil 9 2 (by simp (disch := omega) only [go_sem, seval]) (by simp) (Weak.refl _ _ _)) ?_;refine Zq [1, 2, 3, 4] (fun m : List Flt => [(9, .sl 1 0 m.length m.length)]) (fun m => Zy n ++ [.elems 2 (m.map eF)]) (fun m => m = Z1 n.places.length d ty l 0) ?_ ?_
 ·simp (disch := omega) only [go_sem, seval];refine cD ?_ ?_ <;> intro h <;> simp (disch := omega) only [Sh.out h, go_sem, seval]
  ·exact ⟨[(4, [])], by rw [Z1, if_neg (by omega)]; rfl, Weak.mk (by simp (disch := omega) only [Zy, go_sem, seval])⟩
  ·exact ⟨[], by rw [Z1, if_pos (by omega)]; rfl, Weak.mk (by simp (disch := omega) only [Zy, go_sem, seval])⟩
 ·intro m hm;refine Zd [] _ _ _ _ ?_;simp (disch := omega) only [Zy, go_sem, seval];refine Zf [1, 2, 3, 4] (fun q : Nat × List Flt => [(9, .sl 1 0 q.2.length q.2.length), (10, .p (.int .i64 q.1))]) (fun q => Zy n ++ [.elems 2 (q.2.map eF)]) (fun q => q.1 <= l.length /\ q.2 = Z1 n.places.length d ty l q.1) (fun q => l.length - q.1) (0, m) ⟨by simp, hm⟩ (Weak.mk ?_) ?_
  ·simp (disch := omega) only [Zy, go_sem, seval]
  ·clear hm;rintro ⟨k, m⟩ ⟨hk, hm⟩;simp only at hk hm;have hml := YW n.places.length d ty l k;rw [<- hm] at hml;simp (disch := omega) only [Zy, go_sem, seval];refine cD ?_ ?_ <;> intro h <;> simp (disch := omega) only [Sh.out h, go_sem, seval]
   ·have hk2 : k < l.length := by omega
    have hI : I64 (k : Int) := by omega
    have hrl := Ut n.places.length d ty l k;refine ((Zft n.places.length d ty l c k hk2 hl w1 (hlw _ (Zl hk2))).frozen (by simp)).use ?_;simp (disch := omega) only [go_sem, seval];generalize hre : Xy n.places.length d ty l k = e at hrl ⊢;refine Zf [1, 2, 3, 4, 10, 11] (fun q : Nat × List Flt => [(9, .sl 1 0 q.2.length q.2.length), (12, .p (.int .i64 q.1))]) (fun q => Zy n ++ [.elems 2 (q.2.map eF)]) (fun q => q.1 <= e.length /\ q.2 = Z1 n.places.length d ty l k ++ (e.take q.1).map fun e => (e, ZaH k)) (fun q => e.length - q.1) (0, m) ⟨by simp, by simp [hm]⟩ (Weak.mk ?_) ?_
    ·simp (disch := omega) only [Zy, go_sem, seval]
    ·clear hm hml;rintro ⟨j, m⟩ ⟨hj, hm⟩;simp only at hj hm;have hml := YW n.places.length d ty l k
     have hml2 : m.length <= 1 + 8 * k + 8 := by rw [hm]; simp; omega
     simp (disch := omega) only [Zy, go_sem, seval];refine cD ?_ ?_ <;> intro h2 <;> simp (disch := omega) only [Sh.out h2, go_sem, seval]
     ·have hj2 : j < e.length := by omega
      refine ZA 9 mixed (by kernel_rfl) (by kernel_rfl) ?_;simp (disch := omega) only [go_sem, seval];refine Zm (V5 k hI) ?_;simp (disch := omega) only [go_sem, seval];refine ⟨(j + 1, m ++ [(nth e j, ZaH k)]), ⟨by simp only; omega, ?_⟩, by simp only; omega, Weak.mk (by simp (disch := omega) only [Zy, go_sem, seval])⟩;simp only [hm, List.append_assoc];rw [List.take_succ_eq_append_getElem hj2, List.map_append, Ze hj2]
      rfl
     ·have hjl : j = e.length := by omega
      subst hjl;refine ⟨(k + 1, m), ⟨by simp only; omega, ?_⟩, by simp only; omega, Weak.mk (by simp (disch := omega) only [Zy, go_sem, seval])⟩;simp only [hm, Ug, hre, List.take_length]
   ·have hkn : k = l.length := by omega
    subst hkn;exact ⟨m, hm, 1, by simp (disch := omega) only [Zy, go_sem, seval]⟩
structure OrdOk (np : Nat) (d ty : Int) (l : List Ord) (i : Nat) : Prop where
 name : nameOk (nth l i).name = true
 twin : ∀ j, j < i -> (nth l j).name ≠ (nth l i).name
 load : loadOk (nth l i).load d = true
 pick : -1 <= (nth l i).pick.place /\ (nth l i).pick.place < np
 drp : -1 <= (nth l i).drp.place /\ (nth l i).drp.place < np
 one : ¬ ((nth l i).pick.place = -1 /\ (nth l i).drp.place = -1)
 pstp : stpOk (nth l i).pick = true
 dstp : stpOk (nth l i).drp = true
 skills : 0 <= (nth l i).skills /\ (nth l i).skills <= 1073741823
 arg : argOk (nth l i) ty = true
theorem Zl5 {b : Bool} {e : Int} : sel b e = [] ↔ b = true := by unfold sel; split <;> simp_all
theorem Kz {np : Nat} {d ty : Int} {l : List Ord} {i : Nat} : Xy np d ty l i = [] ↔ OrdOk np d ty l i := by
 simp only [Xy, List.append_eq_nil_iff, Zl5, Bool.and_eq_true, decide_eq_true_eq, rng, WY]
 constructor
 ·rintro ⟨⟨⟨⟨⟨⟨⟨a1, a2⟩, a3⟩, a4⟩, a5⟩, a6⟩, a7⟩, a8⟩;exact ⟨a1, a2, a3, by omega, by omega, a5, a6.1, a6.2, a7, a8⟩
 ·intro h;obtain ⟨b1, b2⟩ := h.pick;obtain ⟨b3, b4⟩ := h.drp;exact ⟨⟨⟨⟨⟨⟨⟨h.name, h.twin⟩, h.load⟩, by omega, by omega⟩, h.one⟩, h.pstp, h.dstp⟩, h.skills⟩, h.arg⟩
def ordersOk (np : Nat) (d ty : Int) (l : List Ord) : Prop := l.length <= 10 /\ ∀ i, i < l.length -> OrdOk np d ty l i
theorem Zbq {np : Nat} {d ty : Int} {l : List Ord} : Z1 np d ty l l.length = [] ↔ ordersOk np d ty l := by
 simp only [Z1, List.append_eq_nil_iff, List.flatMap_eq_nil_iff, List.mem_range, List.map_eq_nil_iff, Kz, ordersOk];refine and_congr ?_ Iff.rfl
 split <;> simp_all
theorem ZdG {np : Nat} {d ty : Int} {l : List Ord} (hl : l.length <= 1048576) : ∀ f ∈ Z1 np d ty l l.length, pF 20 f := by
 intro f hf;simp only [Z1, List.mem_append, List.mem_flatMap, List.mem_range, List.mem_map] at hf;rcases hf with hf | ⟨i, hi, e, he, rfl⟩
 ·split at hf <;> simp at hf
  subst hf; simp [pF]
 ·exact Ww i (by omega)
theorem ZdZ (n : Int) (h0 : 0 <= n) (hn : n <= 4611686018427387904) : PC 210 [.p (.int .i64 n)] (.str (dec n.toNat)) := by
 refine Za Tryz.func210 rfl Zrz ?_;simp (disch := omega) only [Tryz.f210, go_sem, seval];refine Zf [] (fun q : Int × List UInt8 => [(0, .p (.int .i64 q.1)), (3, .p (.str q.2))]) (fun _ => []) (fun q => 0 <= q.1 /\ q.1 <= n /\ dec q.1.toNat ++ q.2 = dec n.toNat) (fun q => q.1.toNat) (n, []) (by simp [h0]) (Weak.mk ?_) ?_
 ·simp (disch := omega) only [go_sem, seval]
 ·rintro ⟨m, s⟩ ⟨hm, hmn, hs⟩;simp only at hm hmn hs;have hl := Zfd _ n.toNat (Nat.lt_succ_self _)
  have hl2 : (dec m.toNat).length + s.length = (dec n.toNat).length := by rw [<- hs]; simp
  simp (disch := first | omega | (simp only [List.length_cons, List.length_nil, List.length_append, List.length_map, List.length_take, List.length_drop] <;> omega)) only [go_sem, seval];refine cD ?_ ?_ <;> intro h <;> simp (disch := omega) only [Sh.out h, go_sem, seval]
  ·simp (disch := first | omega | (simp only [List.length_cons, List.length_nil, List.length_append, List.length_map, List.length_take, List.length_drop] <;> omega)) only [go_sem, seval]
   have h2 : ¬ m.toNat < 10 := by omega
   have e1 : (48 + m % 10).toNat = 48 + m.toNat % 10 := by omega
   have e2 : (m / 10).toNat = m.toNat / 10 := by omega
   refine ⟨(m / 10, UInt8.ofNat (48 + m % 10).toNat :: s), ⟨by simp only; omega, by simp only; omega, ?_⟩, by simp only; omega, Weak.mk ?_⟩
   ·simp only [e1, e2];rw [<- hs, dec.eq_def m.toNat, dif_neg h2];simp
   ·simp (disch := omega) only [go_sem, seval]
  ·simp (disch := first | omega | (simp only [List.length_cons, List.length_nil, List.length_append, List.length_map, List.length_take, List.length_drop] <;> omega)) only [go_sem, seval]
   have h2 : m.toNat < 10 := by omega
   have e1 : (48 + m).toNat = 48 + m.toNat := by omega
   rw [<- hs, dec.eq_def m.toNat, dif_pos h2, e1]
   rfl
def okP (n : Int) (p : Int × Int) : Bool := decide (0 <= p.1 /\ p.1 < n) && decide (0 <= p.2 /\ p.2 < n) && decide (¬ p.1 = p.2)
def atW (word : List UInt8) (i : Nat) : List UInt8 := word ++ [32] ++ dec i
def flt (n : Int) (word : List UInt8) (sm : Int × Int -> Int × Int -> Bool) (l : List (Int × Int)) (i : Nat) : List (Int × List UInt8) :=
 if okP n (nth l i) = false then [(2, atW word i)] else if (l.take i).any (sm (nth l i)) then [(6, atW word i)] else []
def hdr (word : List UInt8) (l : List (Int × Int)) : List (Int × List UInt8) := if 16 < l.length then [(4, word)] else []
def Kc (n : Int) (word : List UInt8) (sm : Int × Int -> Int × Int -> Bool) (l : List (Int × Int)) (k : Nat) : List (Int × List UInt8) := hdr word l ++ (List.range k).flatMap (flt n word sm l)
theorem KN (n word sm l k) : Kc n word sm l (k + 1) = Kc n word sm l k ++ flt n word sm l k := by simp [Kc, List.range_succ, List.flatMap_append]
theorem KR (n word sm l) : Kc n word sm l 0 = hdr word l := by simp [Kc]
theorem Zk7 (n word sm l i) : (flt n word sm l i).length <= 1 := by unfold flt; split <;> (try split) <;> simp
theorem VG (n word sm l) : ∀ k, (Kc n word sm l k).length <= k + 1 := by
 intro k
 induction k with
 | zero => rw [KR]; unfold hdr; split <;> simp
 | succ k ih => rw [KN]; have := Zk7 n word sm l k; simp; omega
def chk (n : Int) (ap be : List (Int × Int)) : List (Int × List UInt8) :=
 Kc n [97, 112, 97, 114, 116] (fun p q => decide (p = q \/ (p.1 = q.2 /\ p.2 = q.1))) ap ap.length ++ Kc n [98, 101, 102, 111, 114, 101] (fun p q => decide (p = q)) be be.length
def smR (turned : Bool) (p q : Int × Int) : Bool := decide (q.1 = p.1 /\ q.2 = p.2) || (turned && decide (q.1 = p.2 /\ q.2 = p.1))
theorem Zh3 : smR true = fun p q => decide (p = q \/ (p.1 = q.2 /\ p.2 = q.1)) := by
 funext p q
 simp only [smR, Bool.true_and, ZpC]
 congr 1
 simp only [Prod.ext_iff, eq_iff_iff]
 constructor
 ·rintro (h | h)
  ·exact .inl ⟨h.1.symm, h.2.symm⟩
  ·exact .inr ⟨h.2.symm, h.1.symm⟩
 ·rintro (h | h)
  ·exact .inl ⟨h.1.symm, h.2.symm⟩
  ·exact .inr ⟨h.2.symm, h.1.symm⟩
theorem ZeV : smR false = fun p q => decide (p = q) := by
 funext p q
 simp only [smR, Bool.false_and, Bool.or_false]
 congr 1
 simp only [Prod.ext_iff, eq_iff_iff];exact ⟨fun h => ⟨h.1.symm, h.2.symm⟩, fun h => ⟨h.1.symm, h.2.symm⟩⟩
def tw (turned : Bool) (l : List (Int × Int)) (p : Int × Int) (j : Nat) : Bool := (l.take j).any (smR turned p)
theorem ZlK (turned l p) : tw turned l p 0 = false := by simp [tw]
theorem Zl0 (turned : Bool) (l : List (Int × Int)) (p : Int × Int) (j : Nat) (h : j < l.length) : tw turned l p (j + 1) = (tw turned l p j || smR turned p (nth l j)) := by
 rw [tw, tw, List.take_succ_eq_append_getElem h, List.any_append, Ze h];simp only [List.any_cons, List.any_nil, Bool.or_false]
theorem ZbB (n : Int) (word : List UInt8) (l : List (Int × Int)) (c : Bool) (turned : Bool) (hw : word.length <= 1000) (hl : l.length <= 1048576) :
  ACalls Tryz.prog 149 [.p (.int .i64 n), .p (.list c (l.map eP)), .p (.str word), .p (.bool turned)] [] fun x H' => x = .sl 0 0 (Kc n word (smR turned) l l.length).length (Kc n word (smR turned) l l.length).length /\ H' = [.elems 2 ((Kc n word (smR turned) l l.length).map eF)] := by
 refine JD [2] (fn := Tryz.f149) (by simp) Tryz.func149 rfl ZrN ?_;simp (disch := omega) only [Tryz.f149, go_sem, seval];refine Zn (Weak.ofNil 9 2 (by simp (disch := omega) only [go_sem, seval]) (by simp) (Weak.refl _ _ _)) ?_;simp (disch := omega) only [go_sem, seval];refine Zq [0, 1, 2, 3] (fun _ : Unit => [(9, .sl 0 0 (hdr word l).length (hdr word l).length)]) (fun _ => [.elems 2 ((hdr word l).map eF)]) (fun _ => True) ?_ ?_
 ·simp (disch := omega) only [go_sem, seval];refine cD ?_ ?_ <;> intro h <;> simp (disch := omega) only [Sh.out h, go_sem, seval]
  ·refine ⟨(), Weak.mk ?_⟩
   have h2 : 16 < l.length := by omega
   simp (disch := omega) only [hdr, h2, go_sem, seval]
  ·refine ⟨(), Weak.mk ?_⟩
   have h2 : ¬ 16 < l.length := by omega
   simp (disch := omega) only [hdr, h2, go_sem, seval]
 ·intro _ _;refine Zd [] _ _ _ _ ?_;simp (disch := omega) only [go_sem, seval];refine Zf [0, 1, 2, 3] (fun k : Nat => [(9, .sl 0 0 (Kc n word (smR turned) l k).length (Kc n word (smR turned) l k).length), (10, .p (.int .i64 k))]) (fun k => [.elems 2 ((Kc n word (smR turned) l k).map eF)]) (fun k => k <= l.length) (fun k => l.length - k) 0 (by simp) (Weak.mk ?_) ?_
  ·simp (disch := omega) only [KR, go_sem, seval]
  ·intro k hk;have hfl := VG n word (smR turned) l k;have hdl := Zfd _ k (Nat.lt_succ_self _);simp (disch := omega) only [go_sem, seval];refine cD ?_ ?_ <;> intro h <;> simp (disch := omega) only [Sh.out h, go_sem, seval]
   ·have hk2 : k < l.length := by omega
    simp (disch := first | omega | (simp only [List.length_cons, List.length_nil, List.length_append, List.length_map, List.length_take, List.length_drop] <;> omega)) only [go_sem, seval];refine (ZdZ (k : Int) (by omega) (by omega)).use ?_;simp (disch := first | omega | (simp only [List.length_cons, List.length_nil, List.length_append, List.length_map, List.length_take, List.length_drop] <;> omega)) only [go_sem, seval];have hs := KN n word (smR turned) l k
    have hbad : okP n (nth l k) = false -> flt n word (smR turned) l k = [(2, word ++ [32] ++ dec k)] := fun e => by simp [flt, e, atW]
    repeat' (first | (refine ZR (fun hq => ?_) (fun hq => ?_) <;> (try simp only [decide_eq_true_eq, decide_eq_false_iff_not, Classical.not_not] at hq) <;> simp (disch := omega) only [Sh.out hq, go_sem, seval]) | (refine ZS (fun hq => ?_) (fun hq => ?_) <;> (try simp only [decide_eq_true_eq, decide_eq_false_iff_not, Classical.not_not] at hq) <;> simp (disch := omega) only [Sh.out hq, go_sem, seval]) | (refine Xc (fun hq => ?_) (fun hq => ?_) <;> (try simp only [decide_eq_true_eq, decide_eq_false_iff_not, Classical.not_not] at hq) <;> simp (disch := omega) only [Sh.out hq, go_sem, seval]))
    all_goals try (
     have e := hbad (by simp [okP]; omega)
     exact ⟨k + 1, by omega, by omega, Weak.mk (by simp (disch := omega) only [hs, e, go_sem, seval])⟩)
    have hok : okP n (nth l k) = true := by simp [okP]; omega
    refine Zf [0, 1, 2, 3, 9, 10, 11, 12, 13] (fun j : Nat => [(14, .p (.bool (tw turned l (nth l k) j))), (15, .p (.int .i64 j))]) (fun _ => [.elems 2 ((Kc n word (smR turned) l k).map eF)]) (fun j => j <= k) (fun j => k - j) 0 (by simp) (Weak.mk ?_) ?_
    ·simp (disch := omega) only [ZlK, go_sem, seval]
    ·intro j hj;simp (disch := omega) only [go_sem, seval];refine cD ?_ ?_ <;> intro h4 <;> simp (disch := omega) only [Sh.out h4, go_sem, seval]
     ·have hts := Zl0 turned l (nth l k) j (by omega);generalize tw turned l (nth l k) j = q at hts ⊢
      repeat' (first | (refine ZR (fun hq => ?_) (fun hq => ?_) <;> (try simp only [decide_eq_true_eq, decide_eq_false_iff_not, Classical.not_not] at hq) <;> simp (disch := omega) only [Sh.out hq, go_sem, seval]) | (refine ZS (fun hq => ?_) (fun hq => ?_) <;> (try simp only [decide_eq_true_eq, decide_eq_false_iff_not, Classical.not_not] at hq) <;> simp (disch := omega) only [Sh.out hq, go_sem, seval]) | (refine Xc (fun hq => ?_) (fun hq => ?_) <;> (try simp only [decide_eq_true_eq, decide_eq_false_iff_not, Classical.not_not] at hq) <;> simp (disch := omega) only [Sh.out hq, go_sem, seval]))
      all_goals refine ⟨j + 1, by omega, by omega, Weak.mk ?_⟩
      all_goals clear hs hbad hfl hdl
      all_goals simp (disch := omega) only [hts, go_sem, seval]
      all_goals simp [smR, *]
      all_goals first | omega | (simp [smR, *] at hts; exact hts)
     ·have hjk : j = k := by omega
      subst hjk;refine cD ?_ ?_ <;> intro h5 <;> simp (disch := omega) only [Sh.out h5, go_sem, seval]
      ·have e : flt n word (smR turned) l j = [(6, word ++ [32] ++ dec j)] := by
        have h6 : (l.take j).any (smR turned (nth l j)) = true := h5;simp [flt, hok, h6, atW]
       exact ⟨j + 1, by omega, by omega, Weak.mk (by simp (disch := omega) only [hs, e, go_sem, seval])⟩
      ·have e : flt n word (smR turned) l j = [] := by
        have h6 : (l.take j).any (smR turned (nth l j)) = false := h5;simp only [flt, hok, h6, Bool.true_eq_false, Bool.false_eq_true, if_false]
       exact ⟨j + 1, by omega, by omega, Weak.mk (by simp (disch := omega) only [hs, e, go_sem, seval])⟩
   ·have : k = l.length := by omega
    subst this;exact ⟨0, by simp (disch := omega) only [go_sem, seval]⟩
theorem ZiO (n : Int) (ap be : List (Int × Int)) (c c' : Bool) (hl : ap.length <= 1048576) (hl2 : be.length <= 1048576) :
  ACalls Tryz.prog 100 [.p (.int .i64 n), .p (.list c (ap.map eP)), .p (.list c' (be.map eP))] [] fun x H' => x = .sl 0 0 (chk n ap be).length (chk n ap be).length /\ H' = [.elems 2 ((chk n ap be).map eF)] := by
 refine Yo (fn := Tryz.f100) (by simp) Tryz.func100 rfl Zqr ?_;simp (disch := omega) only [Tryz.f100, go_sem, seval];have h1 := VG n [97, 112, 97, 114, 116] (smR true) ap ap.length;have h2 := VG n [98, 101, 102, 111, 114, 101] (smR false) be be.length;refine (ZbB n _ ap c true (by decide) hl).useF ?_;simp (disch := omega) only [go_sem, seval];refine (ZbB n _ be c' false (by decide) hl2).useF ?_;simp (disch := omega) only [go_sem, seval];refine ⟨0, ?_⟩;rw [chk, <- Zh3, <- ZeV];simp (disch := omega) only [go_sem, seval]
@[go_sem] theorem Zsj {H : List AM.Obj} {β : Type} {S b o n : Nat} {xs : List PV} {g : β -> PV} {m : List β} (hb : (n + m.length) * b <= 140737488355328) (hb2 : n + m.length <= 140737488355328) :
  JO H (some (S, b)) (.elems S xs) o n (some (m.map g)) = if xs.length = n /\ okE S (m.map g) = true then some (.sl o 0 (n + m.length) (n + m.length), ost H o (.elems S (xs ++ m.map g))) else none := by
 rw [Zho];simp only [List.length_map, hb, hb2, and_true]
def und (word : List UInt8) (f : Flt) : Flt := (f.1, if f.2 = [] then word else word ++ [32] ++ f.2)
theorem Vp (word : List UInt8) (l : List Flt) (c : Bool) (hword : word.length <= 100) (hl : l.length <= 4194306000000) (hp : ∀ f ∈ l, pF 100 f) :
  ACalls Tryz.prog 95 [.p (.str word), .p (.list c (l.map eF))] [] fun x H' => x = .sl 0 0 (l.map (und word)).length (l.map (und word)).length /\ H' = [.elems 2 ((l.map (und word)).map eF)] := by
 suffices hh : ACalls Tryz.prog 95 [.p (.str word), .p (.list c (l.map eF))] [] fun x H' => ∃ m : List Flt, m = l.map (und word) /\ x = .sl 0 0 m.length m.length /\ H' = [.elems 2 (m.map eF)] by
  refine hh.mono ?_;rintro x H' ⟨m, rfl, h1, h2⟩;exact ⟨h1, h2⟩
 refine ZB [2] Tryz.func95 rfl ZyB ?_;simp (disch := omega) only [Tryz.f95, go_sem, seval];refine Zn (Weak.ofNil 5 2 (by simp (disch := omega) only [go_sem, seval]) (by simp) (Weak.refl _ _ _)) ?_;refine Zd [] _ _ _ _ ?_;simp (disch := omega) only [go_sem, seval];refine Zf [0, 1] (fun q : Nat × List Flt => [(5, .sl 0 0 q.2.length q.2.length), (6, .p (.int .i64 q.1))]) (fun q => [.elems 2 (q.2.map eF)]) (fun q => q.1 <= l.length /\ q.2 = (l.take q.1).map (und word)) (fun q => l.length - q.1) (0, []) ⟨by simp, by simp⟩ (Weak.mk ?_) ?_
 ·simp (disch := omega) only [go_sem, seval]
 ·rintro ⟨k, m⟩ ⟨hk, hm⟩;simp only at hk hm
  have hml : m.length <= k := by rw [hm]; simp; omega
  simp (disch := omega) only [go_sem, seval];refine cD ?_ ?_ <;> intro h <;> simp (disch := omega) only [Sh.out h, go_sem, seval]
  ·have hk2 : k < l.length := by omega
   have hpk := hp _ (Zl hk2);unfold pF at hpk
   have hnext : ∀ f, f = und word (nth l k) -> m ++ [f] = (l.take (k + 1)).map (und word) := fun f hf => by
    rw [hf, hm, List.take_succ_eq_append_getElem hk2, List.map_append, Ze hk2]; rfl
   refine cD ?_ ?_ <;> intro h2 <;> simp (disch := omega) only [Sh.out h2, go_sem, seval]
   ·have h3 : ¬ (nth l k).2 = [] := by simpa using h2
    simp (disch := first | omega | (simp only [List.length_cons, List.length_nil, List.length_append, List.length_map, List.length_take, List.length_drop] <;> omega)) only [go_sem, seval];refine ⟨(k + 1, m ++ [((nth l k).1, word ++ [32] ++ (nth l k).2)]), ⟨by simp only; omega, hnext _ (by simp [und, h3])⟩, by simp only; omega, Weak.mk (by simp (disch := first | omega | (simp only [List.length_cons, List.length_nil, List.length_append, List.length_map, List.length_take, List.length_drop] <;> omega)) only [go_sem, seval])⟩
   ·have h3 : (nth l k).2 = [] := by simpa using h2
    refine ⟨(k + 1, m ++ [((nth l k).1, word)]), ⟨by simp only; omega, hnext _ (by simp [und, h3])⟩, by simp only; omega, Weak.mk (by simp (disch := first | omega | (simp only [List.length_cons, List.length_nil, List.length_append, List.length_map, List.length_take, List.length_drop] <;> omega)) only [go_sem, seval])⟩
  ·have hkn : k = l.length := by omega
   subst hkn;exact ⟨m, by rw [hm, List.take_length], 0, by simp (disch := omega) only [go_sem, seval]⟩
theorem Zqv {n : Int} {ap be : List (Int × Int)} (ha : ap.length <= 1048576) (hb : be.length <= 1048576) : ∀ f ∈ chk n ap be, pF 100 f := by
 have key : ∀ (word : List UInt8) (sm : Int × Int -> Int × Int -> Bool) (l : List (Int × Int)), word.length <= 6 -> l.length <= 1048576 -> ∀ f ∈ Kc n word sm l l.length, pF 100 f := fun word sm l hw hl f hf => by
  simp only [Kc, List.mem_append, List.mem_flatMap, List.mem_range] at hf;rcases hf with hf | ⟨i, hi, hf⟩
  ·unfold hdr at hf; split at hf <;> simp at hf;subst hf; simp [pF]; omega
  ·have hd := V2 6 i (by omega)
   have : ∀ e : Int, pF 100 (e, atW word i) := fun e => by simp [pF, atW]; omega
   unfold flt at hf
   split at hf
   ·simp at hf; subst hf; exact this _
   ·split at hf <;> simp at hf
    subst hf; exact this _
 intro f hf;rcases List.mem_append.1 hf with hf | hf
 ·exact key _ _ _ (by simp) ha f hf
 ·exact key _ _ _ (by simp) hb f hf
theorem ZlI {n : Int} {ap be : List (Int × Int)} : (chk n ap be).length <= ap.length + be.length + 2 := by
 have h1 := VG n [97, 112, 97, 114, 116] (fun p q => decide (p = q \/ (p.1 = q.2 /\ p.2 = q.1))) ap ap.length;have h2 := VG n [98, 101, 102, 111, 114, 101] (fun p q => decide (p = q)) be be.length;rw [chk, List.length_append]; omega
structure InstOk (x : Inst) : Prop where
 net : netOk x.net
 types : typesOk x.net x.types
 orders : ordersOk x.net.places.length (dimsOf x.types) x.types.length x.orders
 rules : chk x.orders.length x.apart x.before = []
theorem FR.und {p : Flt -> Prop} {C : Prop} {b : Nat} {l : List Flt} (h : FR p C b l) (word : List UInt8) : FR (fun _ => True) C b (l.map (und word)) :=
 ⟨by simpa using h.len, by rw [List.map_eq_nil_iff]; exact h.emp, fun _ _ => trivial⟩
theorem Zpp (x : Inst) (hw : x.wf 1048576) : ACalls Tryz.prog 34 [.p (ZG x)] [] fun y H' => ∃ m : List Flt, FR (fun _ => True) (InstOk x) 4194400000000 m /\ y = .sl 0 0 m.length m.length /\ H' = [.elems 2 (m.map eF)] := by
 obtain ⟨w1, w2, w3, w4, w5, w6, w7, w8, w9⟩ := hw;refine ZB [] Tryz.func34 rfl Zyn ?_;simp (disch := omega) only [Tryz.f34, go_sem, seval];have ol := YW x.net.places.length (dimsOf x.types) x.types.length x.orders x.orders.length;have oat := ZdG (np := x.net.places.length) (d := dimsOf x.types) (ty := x.types.length) w4;have onil := Zbq (np := x.net.places.length) (d := dimsOf x.types) (ty := x.types.length) (l := x.orders);have cl := ZlI (n := x.orders.length) (ap := x.apart) (be := x.before);have cat := Zqv (n := x.orders.length) w6 w8;refine ((Zsr x.net w1).frozenE).useV fun m1 h1 => ?_
 simp (disch := omega) only [go_sem, seval];have h1p := h1.pmono (q := pF 100) fun f hf => hf.mono (by omega);have u1 := Vp [110, 101, 116] m1 false (by simp) h1.len h1p.all;have f1 := h1.und [110, 101, 116];generalize m1.map (und [110, 101, 116]) = q1 at u1 f1;have f1l := f1.len;refine (u1).useF ?_;simp (disch := omega) only [go_sem, seval];refine ((Zr7 x.net x.types x.types_c w1 w2 w3).frozenE).useV fun m2 h2 => ?_;simp (disch := omega) only [go_sem, seval];have h2p := h2.pmono (q := pF 100) fun f hf => hf.mono (by omega);have h2l := h2.len;have u2 := (Vp [116, 121, 112, 101, 115] m2 false (by simp) (by omega) h2p.all).frozen (by simp)
 have f2 := h2.und [116, 121, 112, 101, 115];generalize m2.map (und [116, 121, 112, 101, 115]) = q2 at u2 f2;have f2l := f2.len;refine (u2).use ?_;simp (disch := omega) only [go_sem, seval];have u3 := (Vp [111, 114, 100, 101, 114, 115] (Z1 x.net.places.length (dimsOf x.types) x.types.length x.orders x.orders.length) false (by simp) (by omega) fun f hf => (oat f hf).mono (by omega)).frozen (by simp);have f3 := (show FR (fun _ => True) (ordersOk x.net.places.length (dimsOf x.types) x.types.length x.orders) (1 + 8 * x.orders.length) (Z1 x.net.places.length (dimsOf x.types) x.types.length x.orders x.orders.length) from ⟨ol, onil, fun _ _ => trivial⟩).und [111, 114, 100, 101, 114, 115]
 generalize (Z1 x.net.places.length (dimsOf x.types) x.types.length x.orders x.orders.length).map (und [111, 114, 100, 101, 114, 115]) = q3 at u3 f3;have f3l := f3.len;refine ZA 13 mixed (by kernel_rfl) (by kernel_rfl) ?_;simp (disch := omega) only [go_sem, seval];refine Zm (ZcL x.types x.types_c w2) ?_;simp (disch := omega) only [go_sem, seval];refine Zm ((Zr5 x.net (dimsOf x.types) x.types.length x.orders x.orders_c w1 w4 w5).frozen (by simp)) ?_;simp (disch := omega) only [go_sem, seval];refine Zm (u3) ?_;simp (disch := omega) only [go_sem, seval];have u4 := (Vp [114, 117, 108, 101, 115] (chk x.orders.length x.apart x.before) false (by simp) (by omega) cat).frozen (by simp)
 have f4 := (show FR (fun _ => True) (chk x.orders.length x.apart x.before = []) (x.apart.length + x.before.length + 2) (chk x.orders.length x.apart x.before) from ⟨cl, Iff.rfl, fun _ _ => trivial⟩).und [114, 117, 108, 101, 115];generalize (chk x.orders.length x.apart x.before).map (und [114, 117, 108, 101, 115]) = q4 at u4 f4;have f4l := f4.len;refine ((ZiO x.orders.length x.apart x.before x.apart_c x.before_c w6 w8).frozen (by simp)).use ?_;simp (disch := omega) only [go_sem, seval];refine (u4).use ?_;simp (disch := omega) only [go_sem, seval];refine ⟨q1 ++ q2 ++ q3 ++ q4, ((f1.app f2).app f3 |>.app f4).to (by omega) ⟨fun ⟨⟨⟨a, b⟩, c⟩, d⟩ => ⟨a, b, c, d⟩, fun h => ⟨⟨⟨h.net, h.types⟩, h.orders⟩, h.rules⟩⟩, 1, ?_⟩
 simp (disch := omega) only [go_sem, seval]
def Zb (x : Inst) : AM.Obj := .cells [.p (.list x.net.places_c (x.net.places.map eS)), .p (.list x.net.arcs_c (x.net.arcs.map Jg)), .p (.list x.types_c (x.types.map QP)), .p (.list x.orders_c (x.orders.map QJ)), .p (.list x.apart_c (x.apart.map eP)), .p (.list x.before_c (x.before.map eP))]
def zSco : Sco := ⟨0, 0, 0, 0⟩
theorem ZlS (a : Int) : IntKind.i64.wrap ((BitVec.ofInt 64 a &&& BitVec.ofInt 64 1).toNat : Int) = a % 2 := by
 have h : ((BitVec.ofInt 64 a &&& BitVec.ofInt 64 1).toNat : Int) = a % 2 := by
  rw [BitVec.toNat_and]
  have : (BitVec.ofInt 64 1).toNat = 1 := by decide
  rw [this, Nat.and_one_is_mod]
  have : ((BitVec.ofInt 64 a).toNat : Int) = a % 2 ^ 64 := by simp [BitVec.toNat_ofInt]; omega
  omega
 rw [h];exact IntWalk.i64_in _ (by omega)
def Ze8 (s i : Int) : Bool := decide (0 <= i) && decide (i <= 62) && decide (s.fdiv (2 ^ i.toNat) % 2 = 1)
theorem Zlx (s i : Int) : PC 41 [.p (.int .i64 s), .p (.int .i64 i)] (.bool (Ze8 s i)) := by
 refine Za Tryz.func41 rfl Zwl ?_;simp (disch := omega) only [Tryz.f41, go_sem, seval];refine gT ?_ ?_ <;> intro h <;> simp (disch := omega) only [Sh.out h, go_sem, seval]
 ·refine gT ?_ ?_ <;> intro h1 <;> simp (disch := omega) only [Sh.out h1, go_sem, seval]
  ·have : min i.toNat 64 = i.toNat := by omega
   rw [this]
   erw [ZlS]
   simp [Ze8, h, h1]
  ·simp [Ze8, h, h1]
 ·simp [Ze8, h]
def Z6 (s : Int) (k : Nat) : List Int := ((List.range k).filter fun (i : Nat) => Ze8 s (i : Int)).map fun (i : Nat) => (i : Int)
theorem ZfE (s : Int) : Z6 s 0 = [] := by simp [Z6]
theorem ZhZ {s : Int} {k : Nat} (h : Ze8 s (k : Int) = true) : Z6 s (k + 1) = Z6 s k ++ [(k : Int)] := by simp [Z6, List.range_succ, List.filter_append, h]
theorem Zl8 {s : Int} {k : Nat} (h : Ze8 s (k : Int) = false) : Z6 s (k + 1) = Z6 s k := by simp [Z6, List.range_succ, List.filter_append, h]
theorem Wu (s : Int) (k : Nat) : (Z6 s k).length <= k := by
 simp only [Z6, List.length_map];exact Nat.le_trans (List.length_filter_le _ _) (by simp)
theorem YG (s : Int) : ACalls Tryz.prog 43 [.p (.int .i64 s)] [] fun x H' => x = .sl 0 0 (Z6 s 63).length (Z6 s 63).length /\ H' = [.elems 1 ((Z6 s 63).map eI)] := by
 refine Yo (fn := Tryz.f43) (by simp) Tryz.func43 rfl Zw1 ?_;simp (disch := omega) only [Tryz.f43, go_sem, seval];refine Zf [0] (fun k : Nat => [(3, .sl 0 0 (Z6 s k).length (Z6 s k).length), (5, .p (.int .i64 k))]) (fun k => [.elems 1 ((Z6 s k).map eI)]) (fun k => k <= 63) (fun k => 63 - k) 0 (by simp) (Weak.ofNil 3 1 (by simp (disch := omega) only [go_sem, seval]) (by simp) (Weak.mk ?_)) ?_
 ·simp (disch := omega) only [ZfE, go_sem, seval]
 ·intro k hk;have hl := Wu s k;simp (disch := omega) only [go_sem, seval];refine cD ?_ ?_ <;> intro h <;> simp (disch := omega) only [Sh.out h, go_sem, seval]
  ·refine (Zlx s k).use ?_;simp (disch := omega) only [go_sem, seval];refine cD ?_ ?_ <;> intro h2 <;> simp (disch := omega) only [Sh.out h2, go_sem, seval]
   ·refine ⟨k + 1, by omega, by omega, Weak.mk ?_⟩;simp (disch := omega) only [ZhZ h2, go_sem, seval]
   ·exact ⟨k + 1, by omega, by omega, Weak.mk (by simp (disch := omega) only [Zl8 h2, go_sem, seval])⟩
  ·have : k = 63 := by omega
   subst this;exact ⟨0, by simp (disch := omega) only [go_sem, seval]⟩
def eN (n : Nat) : PV := .int .i64 (n : Int)
@[go_sem] theorem ZBg (n : Nat) : eN n = .int .i64 (n : Int) := Eq.trans rfl rfl
theorem Zic (n : Nat) (be : List (Int × Int)) (c : Bool) (hn : n <= 60) (hl : be.length <= 1048576) (hv : Val n be) :
  ACalls Tryz.prog 151 [.p (.int .i64 (n : Int)), .p (.list c (be.map eP))] [] fun x H' => x = .sl 0 0 n n /\ H' = [.elems 1 ((QN n be).map eN)] := by
 refine Yo (fn := Tryz.f151) (by simpa using (Q6 hv).len) Tryz.func151 rfl Zrg ?_;simp (disch := omega) only [Tryz.f151, go_sem, seval];have hp60 : pw n <= pw 62 := Z3 (by omega);have h62 := Qe;refine Zf [0, 1] (fun q : List Nat × Bool => [(5, .sl 0 0 n n), (6, .p (.bool q.2))]) (fun q => [.elems 1 (q.1.map eN)]) (fun q => Snd n be q.1 /\ (q.2 = false -> tot (pas q.1 be) = tot q.1)) (fun q => 2 * (n * pw n - tot q.1) + (if q.2 then 1 else 0)) (List.replicate n 0, true) ⟨Snd.zero n be, by simp⟩ (Weak.mk ?_) ?_
 ·simp (disch := omega) only [List.map_replicate, go_sem, seval]
 ·rintro ⟨out, more⟩ ⟨hs, hm⟩;simp only at hs hm;simp (disch := omega) only [go_sem, seval];refine cD ?_ ?_ <;> intro h <;> simp (disch := omega) only [Sh.out h, go_sem, seval]
  ·have hrs : ∀ i, Snd n be (pas out (be.take i)) := fun i => hs.rnd hv _ fun p hp => List.mem_of_mem_take hp
   have hsuc : ∀ i, i < be.length -> pas out (be.take (i + 1)) = cst (pas out (be.take i)) (nth be i) := fun i hi => by
    rw [List.take_succ_eq_append_getElem hi, Zda, <- Ze hi]; rfl
   refine Zf [0, 1, 16, 17] (fun i : Nat => [(5, .sl 0 0 n n), (6, .p (.bool (decide (tot out < tot (pas out (be.take i)))))), (18, .p (.int .i64 i))]) (fun i => [.elems 1 ((pas out (be.take i)).map eN)]) (fun i => i <= be.length) (fun i => be.length - i) 0 (by simp) (Weak.mk ?_) ?_
   ·simp (disch := omega) only [pas, List.take_zero, List.foldl_nil, go_sem, seval];simp
   ·intro i hi;have hsi := hrs i;generalize hgo : pas out (be.take i) = o at hsi ⊢;have hlo := hsi.len;simp (disch := omega) only [go_sem, seval];refine cD ?_ ?_ <;> intro h2 <;> simp (disch := omega) only [Sh.out h2, go_sem, seval]
    ·have hib : i < be.length := by omega
     have hvi := hv (nth be i) (by rw [Ze hib]; exact List.getElem_mem _)
     have g1 : ¬ (nth be i).1 < 0 := by omega
     have g2 : ¬ (nth be i).2 < 0 := by omega
     have g3 : ¬ (n : Int) <= (nth be i).1 := by omega
     have g4 : ¬ (n : Int) <= (nth be i).2 := by omega
     have g5 : (nth be i).1.toNat < n := by omega
     have g6 : (nth be i).2.toNat < n := by omega
     have b1 := hsi.lt _ g5;have b2 := hsi.lt _ g6;have b3 : nth o (nth be i).2.toNat ||| nth o (nth be i).1.toNat < pw n := Nat.or_lt_two_pow b2 b1;have b4 : pw (nth be i).1.toNat <= pw 62 := Z3 (by omega);have hst := Zf6 o (nth be i) (by omega);have hnx := hsuc i hib;rw [hgo] at hnx;refine V8 mixed (by kernel_rfl) ?_;simp (disch := omega) only [hlo, g1, g2, g3, g4, go_sem, seval];refine V8 mixed (by kernel_rfl) ?_;simp (disch := first | omega | (simp only [List.length_cons, List.length_nil, List.length_append, List.length_map, List.length_take, List.length_drop] <;> omega)) only [hlo, g5, g6, Xi, go_sem, seval]
     have htm : tot out <= tot o := by
      have := (Qm hv (be.take i) out (fun p hp => List.mem_of_mem_take hp) hs).1;rwa [hgo] at this
     have hsv : o.set (nth be i).2.toNat (nth o (nth be i).2.toNat ||| nth o (nth be i).1.toNat ||| pw (nth be i).1.toNat) = cst o (nth be i) := rfl;refine cD ?_ ?_ <;> intro h3 <;> simp (disch := omega) only [Sh.out h3, hlo, go_sem, seval]
     ·have hne : ¬ cst o (nth be i) = o := fun e => by
       apply h3
       have e2 : nth (cst o (nth be i)) (nth be i).2.toNat = nth o (nth be i).2.toNat := by rw [e]
       rw [cst, J1 _ _ _ _ (by omega)] at e2;simp only [if_true] at e2;rw [e2]
      have hlt : tot out < tot (cst o (nth be i)) := by
       have h5 := hst.1;have h6 : tot (cst o (nth be i)) ≠ tot o := fun e => hne (hst.2 e);omega
      simp (disch := first | omega | (simp only [List.length_cons, List.length_nil, List.length_append, List.length_map, List.length_take, List.length_drop] <;> omega)) only [hlo, g6, go_sem, seval];refine ⟨i + 1, by omega, by omega, Weak.mk ?_⟩;simp (disch := omega) only [hnx, hlt, go_sem, seval];rw [<- hsv, List.map_set]
      rfl
     ·have heq : cst o (nth be i) = o := by
       have e : nth o (nth be i).2.toNat ||| nth o (nth be i).1.toNat ||| pw (nth be i).1.toNat = nth o (nth be i).2.toNat := by simp only [Classical.not_not] at h3; exact_mod_cast h3
       rw [<- hsv, e];apply List.ext_getElem (by simp);intro k hk1 hk2;rw [List.getElem_set]
       split
       ·rename_i hk; subst hk; rw [Ze hk2]
       ·rfl
      refine ⟨i + 1, by omega, by omega, Weak.mk ?_⟩;simp (disch := omega) only [hnx, heq, go_sem, seval]
    ·have hi2 : i = be.length := by omega
     subst hi2;rw [List.take_length] at hgo;subst hgo;have hpt := Qm hv be out (fun _ h => h) hs;have hbd := hsi.bound;refine ⟨(pas out be, decide (tot out < tot (pas out be))), ⟨hsi, fun e => ?_⟩, ?_, Weak.mk ?_⟩
     ·simp only [decide_eq_false_iff_not] at e
      have e2 : tot (pas out be) = tot out := by have := hpt.1; omega
      rw [(hpt.2 e2).1, e2]
     ·simp only;rw [h]
      by_cases h7 : tot out < tot (pas out be)
      ·simp only [h7, decide_true, if_true];omega
      ·simp only [h7, decide_false, if_true];have := hpt.1;simp;omega
     ·simp (disch := omega) only [go_sem, seval]
  ·refine ⟨0, ?_⟩;have : out = QN n be := (Zhb hv (hs.clo hv (hm h))).symm;rw [this];simp (disch := omega) only [go_sem, seval]
def hv (s k : Nat) : Nat := s / pw k
theorem ZlP (s : Nat) : hv s 0 = s := by simp [hv, pw]
theorem Zmt (s k : Nat) : hv s (k + 1) = hv s k / 2 := by rw [hv, hv, WV, Nat.mul_comm, <- Nat.div_div_eq_div_mul]
theorem ZxB (s k : Nat) : hv s k <= s := Nat.div_le_self _ _
theorem ZbZ (s k : Nat) : s.testBit k = decide (hv s k % 2 = 1) := by
 rw [Nat.testBit_eq_decide_div_mod_eq]
 rfl
theorem VL (s i : Nat) (hi : i <= 62) : Ze8 (s : Int) (i : Int) = s.testBit i := by
 rw [ZbZ, hv]
 have h1 : (0 : Int) <= i := by omega
 have h2 : (i : Int) <= 62 := by omega
 simp only [Ze8, h1, h2, decide_true, Bool.true_and, Int.toNat_natCast]
 have e : ((s : Int)).fdiv (2 ^ i) = ((s / pw i : Nat) : Int) := by
  have : (2 : Int) ^ i = ((pw i : Nat) : Int) := by simp [pw]
  rw [this, Int.fdiv_eq_ediv_of_nonneg _ (by omega)];simp
 simp only [e];rw [Bool.eq_iff_iff];simp only [decide_eq_true_eq];omega
theorem V7 {α : Type} [Inhabited α] {l : List α} {f : α -> Bool} {k : Nat} (h : k < l.length) (hf : f (nth l k) = true) : l.any f = true := by
 rw [List.any_eq_true]; exact ⟨nth l k, by rw [Ze h]; exact List.getElem_mem _, hf⟩
theorem K2 {α : Type} [Inhabited α] {l : List α} {f : α -> Bool} (h : ∀ j, j < l.length -> f (nth l j) = false) : l.any f = false := by
 rw [List.any_eq_false];intro x hx;obtain ⟨j, hj, rfl⟩ := List.mem_iff_getElem.1 hx;rw [<- Ze hj, h j hj]; simp
noncomputable def ZK (n : Nat) (be : List (Int × Int)) (i : Int) : Nat := if 0 <= i /\ i < n then nth (QN n be) i.toNat ||| pw i.toNat else 0
theorem Zlg (x : Inst) (i : Int) (hn : x.orders.length <= 60) (hl : x.before.length <= 1048576) (hv : Val x.orders.length x.before) :
  PC 103 [.p (ZG x), .p (.int .i64 i)] (.int .i64 (ZK x.orders.length x.before i : Nat)) := by
 have hc := Q6 hv;have hlen := hc.len;refine Za Tryz.func103 rfl Zpc ?_;simp (disch := omega) only [Tryz.f103, go_sem, seval];refine gF ?_ ?_ <;> intro h <;> simp (disch := omega) only [Sh.out h, go_sem, seval]
 ·have : ¬ 0 <= i := by omega
  simp [ZK, this]
 ·refine cD ?_ ?_ <;> intro h4 <;> simp (disch := omega) only [Sh.out h4, go_sem, seval]
  ·have : ¬ i < x.orders.length := by omega
   simp [ZK, this]
  ·have g : 0 <= i /\ i < x.orders.length := by omega
   have g2 : i.toNat < x.orders.length := by omega
   have b1 := hc.lt _ g2;have b2 : pw x.orders.length <= pw 62 := Z3 (by omega);have b3 := Qe;have b4 : pw i.toNat <= pw 62 := Z3 (by omega);refine V8 mixed (by kernel_rfl) ?_;simp (disch := omega) only [go_sem, seval];refine Zm ((Zic x.orders.length x.before _ hn hl hv).frozen (by simpa using hlen)) ?_;simp (disch := omega) only [hlen, go_sem, seval];simp [ZK, g]
theorem ZkW (n : Nat) (hn : n <= 62) : PC 67 [.p (.int .i64 n)] (.int .i64 (pw n : Nat)) := by
 refine Za Tryz.func67 rfl ZyQ ?_;simp (disch := omega) only [Tryz.f67, go_sem, seval];refine Zf [0] (fun k : Nat => [(3, .p (.int .i64 (pw k : Nat))), (4, .p (.int .i64 k))]) (fun _ => []) (fun k => k <= n) (fun k => n - k) 0 (by simp) (Weak.mk ?_) ?_
 ·simp (disch := omega) only [go_sem, seval];simp [pw]
 ·intro k hk;have h62 : pw k <= pw 62 := Z3 (by omega);have h63 : k < n -> pw (k + 1) <= pw 62 := fun h => Z3 (by omega);have h64 := WV k;have h65 := Qe;simp (disch := omega) only [go_sem, seval];refine cD ?_ ?_ <;> intro h <;> simp (disch := omega) only [Sh.out h, go_sem, seval]
  ·exact ⟨k + 1, by omega, by omega, Weak.mk (by simp (disch := omega) only [go_sem, seval]; simp [h64])⟩
  ·have : k = n := by omega
   rw [this]
theorem ZjH (s : Nat) (i : Nat) (hs : s < 9223372036854775808) (hi : i <= 64) : PC 65 [.p (.int .i64 s), .p (.int .i64 i)] (.bool (s.testBit i)) := by
 refine Za Tryz.func65 rfl ZxK ?_;simp (disch := omega) only [Tryz.f65, go_sem, seval];refine Zf [1] (fun k : Nat => [(0, .p (.int .i64 (hv s k : Nat))), (5, .p (.int .i64 k))]) (fun _ => []) (fun k => k <= i) (fun k => i - k) 0 (by simp) (Weak.mk ?_) ?_
 ·simp (disch := omega) only [ZlP, go_sem, seval]
 ·intro k hk;have e1 := Zmt s k;have h1 := ZxB s k;simp (disch := omega) only [go_sem, seval];refine cD ?_ ?_ <;> intro h <;> simp (disch := omega) only [Sh.out h, go_sem, seval]
  ·exact ⟨k + 1, by omega, by omega, Weak.mk (by simp (disch := omega) only [go_sem, seval]; simp only [e1, and_true, PV.int.injEq, true_and]; omega)⟩
  ·have : k = i := by omega
   subst this;rw [ZbZ]
   have : ((hv s k : Nat) : Int) % 2 = 1 ↔ hv s k % 2 = 1 := by omega
   simp only [this]
theorem ZfJ (s : Nat) (i : Int) (hs : s < 9223372036854775808) (h0 : 0 <= i) (hi : i <= 64) : PC 65 [.p (.int .i64 s), .p (.int .i64 i)] (.bool (s.testBit i.toNat)) := by
 obtain ⟨n, rfl⟩ : ∃ n : Nat, i = (n : Int) := ⟨i.toNat, by omega⟩;exact ZjH s n hs (by omega)
theorem ZoO (i : Int) (h0 : 0 <= i) (hi : i <= 62) : PC 67 [.p (.int .i64 i)] (.int .i64 (pw i.toNat : Nat)) := by
 obtain ⟨n, rfl⟩ : ∃ n : Nat, i = (n : Int) := ⟨i.toNat, by omega⟩;exact ZkW n (by omega)
theorem Zmq (n : Nat) (be : List (Int × Int)) (c : Bool) (fr : Nat) (hn : n <= 60) (hl : be.length <= 1048576) (hv : Val n be) :
  PC 66 [.p (.int .i64 (n : Int)), .p (.list c (be.map eP)), .p (.int .i64 (fr : Int))] (.int .i64 (rch n be fr : Nat)) := by
 refine Za Tryz.func66 rfl Zyh ?_;simp (disch := omega) only [Tryz.f66, go_sem, seval];have hp60 : pw n <= pw 62 := Z3 (by omega);have h62 := Qe;refine Zf [0, 1, 2] (fun k : Nat => [(7, .p (.int .i64 (JW fr be k : Nat))), (8, .p (.int .i64 k))]) (fun _ => []) (fun k => k <= n + 1) (fun k => n + 1 - k) 0 (by simp) (Weak.mk ?_) ?_
 ·simp (disch := omega) only [JW, go_sem, seval]
 ·intro k hk;have hs0 := RSnd.rnd (fr := fr) hv k;simp (disch := omega) only [go_sem, seval];refine cD ?_ ?_ <;> intro h <;> simp (disch := omega) only [Sh.out h, go_sem, seval]
  ·refine Zf [0, 1, 2, 8] (fun i : Nat => [(7, .p (.int .i64 (Ka fr (JW fr be k) (be.take i) : Nat))), (9, .p (.int .i64 i))]) (fun _ => []) (fun i => i <= be.length) (fun i => be.length - i) 0 (by simp) (Weak.mk ?_) ?_
   ·simp (disch := omega) only [Ka, List.take_zero, List.foldl_nil, go_sem, seval]
   ·intro i hi;have hs := hs0.pas hv (be.take i) fun p hp => List.mem_of_mem_take hp;have hlt := hs.lt;simp (disch := omega) only [go_sem, seval];refine cD ?_ ?_ <;> intro h2 <;> simp (disch := omega) only [Sh.out h2, go_sem, seval]
    ·have hib : i < be.length := by omega
     have hvi := hv (nth be i) (by rw [Ze hib]; exact List.getElem_mem _)
     have hnx : Ka fr (JW fr be k) (be.take (i + 1)) = J5 fr (Ka fr (JW fr be k) (be.take i)) (nth be i) := by
      rw [List.take_succ_eq_append_getElem hib, Ka, List.foldl_append, <- Ze hib]; rfl
     generalize Ka fr (JW fr be k) (be.take i) = s at hnx hlt ⊢;have hb62 : pw (nth be i).2.toNat <= pw 62 := Z3 (by omega);refine gF ?_ ?_ <;> intro h3 <;> simp (disch := omega) only [Sh.out h3, go_sem, seval]
     ·have e3 : (nth be i).1.toNat = fr := by omega
      refine (ZfJ s (nth be i).2 (by omega) (by omega) (by omega)).use ?_;simp (disch := omega) only [go_sem, seval];refine cD ?_ ?_ <;> intro h4 <;> simp (disch := omega) only [Sh.out h4, go_sem, seval]
      ·refine (ZoO (nth be i).2 (by omega) (by omega)).use ?_;simp (disch := omega) only [go_sem, seval];exact ⟨i + 1, by omega, by omega, Weak.mk (by simp (disch := omega) only [hnx, go_sem, seval]; simp at h4; simp [J5, h4, e3])⟩
      ·exact ⟨i + 1, by omega, by omega, Weak.mk (by simp (disch := omega) only [hnx, go_sem, seval]; simp at h4; simp [J5, h4])⟩
     ·have e3 : ¬ (nth be i).1.toNat = fr := by omega
      refine (ZfJ s (nth be i).1 (by omega) (by omega) (by omega)).use ?_;simp (disch := omega) only [go_sem, seval];refine gT ?_ ?_ <;> intro h5 <;> simp (disch := omega) only [Sh.out h5, go_sem, seval]
      ·refine (ZfJ s (nth be i).2 (by omega) (by omega) (by omega)).use ?_;simp (disch := omega) only [go_sem, seval];refine cD ?_ ?_ <;> intro h4 <;> simp (disch := omega) only [Sh.out h4, go_sem, seval]
       ·refine (ZoO (nth be i).2 (by omega) (by omega)).use ?_;simp (disch := omega) only [go_sem, seval];exact ⟨i + 1, by omega, by omega, Weak.mk (by simp (disch := omega) only [hnx, go_sem, seval]; simp at h4; simp [J5, h4, h5])⟩
       ·exact ⟨i + 1, by omega, by omega, Weak.mk (by simp (disch := omega) only [hnx, go_sem, seval]; simp at h4; simp [J5, h4])⟩
      ·exact ⟨i + 1, by omega, by omega, Weak.mk (by simp (disch := omega) only [hnx, go_sem, seval]; simp [J5, h5, e3])⟩
    ·have hi2 : i = be.length := by omega
     subst hi2;rw [List.take_length];refine ⟨k + 1, by omega, by omega, Weak.mk ?_⟩;simp (disch := omega) only [JW, go_sem, seval]
  ·have : k = n + 1 := by omega
   subst this;rw [Zhq hv]
noncomputable def ndp (n : Nat) (be : List (Int × Int)) (o i : Nat) : Bool := decide (i = o) || (rch n be i).testBit o
theorem WZ {n : Nat} {be : List (Int × Int)} (hv : Val n be) {o : Nat} (ho : o < n) : XW (ndp n be o) n = ZK n be (o : Int) := by
 have hc := Q6 hv
 symm
 have e : ZK n be (o : Int) = nth (QN n be) o ||| pw o := by
  have : 0 <= (o : Int) /\ (o : Int) < n := by omega
  simp [ZK, this]
 rw [e];refine ZbU ?_ fun j hj => ?_
 ·have h1 := hc.lt o ho
  have h2 : pw o < pw n := by
   have := WV o;have h5 : pw (o + 1) <= pw n := Z3 (by omega);have := Um o;omega
  exact Nat.or_lt_two_pow h1 h2
 ·rw [Nat.testBit_or, Z5, ndp, Zmh]
  have : (j = o) = (o = j) := by simp [eq_comm]
  simp only [ho, decide_true, Bool.true_and, this, Bool.or_comm]
theorem Zhe (x : Inst) (i : Int) (hn : x.orders.length <= 60) (hl : x.before.length <= 1048576) (hv : Val x.orders.length x.before) :
  PC 21 [.p (ZG x), .p (.int .i64 i)] (.int .i64 (ZK x.orders.length x.before i : Nat)) := by
 have hp60 : pw x.orders.length <= pw 62 := Z3 (by omega);have h62 := Qe;refine Za Tryz.func21 rfl Zxz ?_;simp (disch := omega) only [Tryz.f21, go_sem, seval];refine gF ?_ ?_ <;> intro h <;> simp (disch := omega) only [Sh.out h, go_sem, seval]
 ·have : ¬ 0 <= i := by omega
  simp [ZK, this]
 ·refine cD ?_ ?_ <;> intro h4 <;> simp (disch := omega) only [Sh.out h4, go_sem, seval]
  ·have : ¬ i < x.orders.length := by omega
   simp [ZK, this]
  ·obtain ⟨o, rfl⟩ : ∃ o : Nat, i = (o : Int) := ⟨i.toNat, by omega⟩
   have ho : o < x.orders.length := by omega
   rw [<- WZ hv ho];refine Zf [1, 2, 5] (fun k : Nat => [(6, .p (.int .i64 (XW (ndp x.orders.length x.before o) k : Nat))), (7, .p (.int .i64 k))]) (fun _ => [Zb x]) (fun k => k <= x.orders.length) (fun k => x.orders.length - k) 0 (by simp) (Weak.mk ?_) ?_
   ·simp (disch := omega) only [Zb, XW, go_sem, seval]
   ·intro k hk;have hsl := Yv (ndp x.orders.length x.before o) k;have hk62 : pw k <= pw 62 := Z3 (by omega);have hrl := ZqS x.orders.length x.before k;simp (disch := omega) only [Zb, go_sem, seval];refine cD ?_ ?_ <;> intro h5 <;> simp (disch := omega) only [Sh.out h5, go_sem, seval]
    ·refine gF ?_ ?_ <;> intro h6 <;> simp (disch := omega) only [Sh.out h6, go_sem, seval]
     ·have e : ndp x.orders.length x.before o k = true := by simp [ndp]; omega
      obtain rfl : k = o := by omega
      refine (ZkW k (by omega)).use ?_;simp (disch := omega) only [go_sem, seval];exact ⟨k + 1, by omega, by omega, Weak.mk (by simp (disch := omega) only [Zb, XW, e, Int.natCast_add, go_sem, seval])⟩
     ·refine (Zmq x.orders.length x.before _ k hn hl hv).use ?_;simp (disch := omega) only [go_sem, seval];refine (ZjH (rch x.orders.length x.before k) o (by omega) (by omega)).use ?_;simp (disch := omega) only [go_sem, seval];refine cD ?_ ?_ <;> intro h7 <;> simp (disch := omega) only [Sh.out h7, go_sem, seval]
      ·have e : ndp x.orders.length x.before o k = true := by simp [ndp, h7]
       refine (ZkW k (by omega)).use ?_;simp (disch := omega) only [go_sem, seval];exact ⟨k + 1, by omega, by omega, Weak.mk (by simp (disch := omega) only [Zb, XW, e, Int.natCast_add, go_sem, seval])⟩
      ·have e : ndp x.orders.length x.before o k = false := by simp [ndp, h7]; omega
       exact ⟨k + 1, by omega, by omega, Weak.mk (by simp (disch := omega) only [Zb, XW, e, Int.natCast_add, go_sem, seval])⟩
    ·have : k = x.orders.length := by omega
     subst this
     rfl
deriving instance DecidableEq for Vis
theorem Zfq {v w : Vis} : v = w ↔ v.order = w.order /\ v.drp = w.drp := by cases v; cases w; simp
def fIx (f : Vis -> Bool) (l : List Vis) : Int := match l.findIdx? f with | some i => (i : Int) | none => -1
def vIx (l : List Vis) (v : Vis) : Int := fIx (fun w => decide (v = w)) l
theorem Zac {f : Vis -> Bool} {l : List Vis} {k : Nat} (hk : k < l.length) (h : f (nth l k) = true) (hno : ∀ j, j < k -> f (nth l j) = false) : fIx f l = (k : Int) := by
 have : l.findIdx? f = some k := by
  rw [List.findIdx?_eq_some_iff_getElem];refine ⟨hk, by rw [<- Ze hk]; exact h, fun j hj => ?_⟩;have h2 := hno j hj;rw [Ze (by omega)] at h2;simpa using h2
 simp [fIx, this]
theorem Zcj {f : Vis -> Bool} {l : List Vis} (hno : ∀ j, j < l.length -> f (nth l j) = false) : fIx f l = -1 := by
 have : l.findIdx? f = none := by
  rw [List.findIdx?_eq_none_iff];intro x hx;obtain ⟨j, hj, rfl⟩ := List.mem_iff_getElem.1 hx;rw [<- Ze hj]; exact hno j hj
 simp [fIx, this]
theorem Zce {f : Vis -> Bool} {l : List Vis} : decide (0 <= fIx f l) = l.any f := by
 unfold fIx
 cases h : l.findIdx? f with
 | none =>
  rw [List.findIdx?_eq_none_iff] at h
  have : l.any f = false := by rw [List.any_eq_false]; intro x hx; simp [h x hx]
  simp [this]
 | some i =>
  rw [List.findIdx?_eq_some_iff_getElem] at h;obtain ⟨h1, h2, _⟩ := h
  have : l.any f = true := by rw [List.any_eq_true]; exact ⟨l[i], List.getElem_mem _, h2⟩
  simp [this]
theorem ZgT {f : Vis -> Bool} {l : List Vis} : fIx f l < l.length /\ -1 <= fIx f l := by
 unfold fIx
 cases h : l.findIdx? f with
 | none => simp; omega
 | some i =>
  rw [List.findIdx?_eq_some_iff_getElem] at h;obtain ⟨h1, _⟩ := h;simp; omega
theorem Zgn (l : List Vis) (c : Bool) (v : Vis) (hl : l.length <= 1048576) : PC 327 [.p (.list c (l.map eVis)), .p (eVis v)] (.int .i64 (vIx l v)) := by
 refine Za Tryz.func327 rfl Zpd ?_;simp (disch := omega) only [Tryz.f327, go_sem, seval];refine Zf [0, 3, 7] (fun k : Nat => [(8, .p (.int .i64 k))]) (fun _ => [.cells [.p (.int .i64 v.order), .p (.bool v.drp)]]) (fun k => k <= l.length /\ ∀ j, j < k -> decide (v = nth l j) = false) (fun k => l.length - k) 0 (by simp) (Weak.mk ?_) ?_
 ·simp (disch := omega) only [go_sem, seval]
 ·rintro k ⟨hk, hno⟩;simp (disch := omega) only [go_sem, seval];refine cD ?_ ?_ <;> intro h <;> simp (disch := omega) only [Sh.out h, go_sem, seval]
  ·have hk2 : k < l.length := by omega
   refine Zi mixed (by kernel_rfl) (by kernel_rfl) ?_;simp (disch := omega) only [go_sem, seval];refine cD ?_ ?_ <;> intro h2 <;> simp (disch := omega) only [Sh.out h2, go_sem, seval]
   ·have : v = nth l k := by simpa [Zfq] using h2
    rw [vIx, Zac hk2 (by simpa using this) hno]
   ·have : ¬ v = nth l k := by simpa [Zfq] using h2
    exact ⟨k + 1, ⟨by omega, Zh.2 ⟨hno, by simpa using this⟩⟩, by omega, wk⟩
  ·have hkl : k = l.length := by omega
   subst hkl;rw [vIx, Zcj hno]
theorem Ze9 (l : List Vis) (c : Bool) (v : Vis) (hl : l.length <= 1048576) : PC 299 [.p (.list c (l.map eVis)), .p (eVis v)] (.int .i64 (vIx l v)) := by
 refine Za Tryz.func299 rfl Ztr ?_;simp (disch := omega) only [Tryz.f299, go_sem, seval];refine (Zgn l c v hl).use ?_;simp (disch := omega) only [go_sem, seval]
theorem KD (l : List Vis) (c : Bool) (v : Vis) (hl : l.length <= 1048576) : PC 300 [.p (.list c (l.map eVis)), .p (eVis v)] (.bool (decide (0 <= vIx l v))) := by
 refine Za Tryz.func300 rfl ZsY ?_;simp (disch := omega) only [Tryz.f300, go_sem, seval];refine (Zgn l c v hl).use ?_;simp (disch := omega) only [go_sem, seval]
theorem ZmH (l : List Ord) (c : Bool) (n : Int) (hl : l.length <= 1048576) : PC 246 [.p (.list c (l.map QJ)), .p (.int .i64 n)] (.bool (decide (0 <= n /\ n < l.length))) := by
 refine Za Tryz.func246 rfl Zj2 ?_;simp (disch := omega) only [Tryz.f246, go_sem, seval];refine gT ?_ ?_ <;> intro h <;> simp (disch := omega) only [Sh.out h, go_sem, seval]
 all_goals (try simp [h])
def X5 (l : List Ord) (i : Nat) : List Vis := (if 0 <= (nth l i).pick.place then [⟨i, false⟩] else []) ++ (if 0 <= (nth l i).drp.place then [⟨i, true⟩] else [])
theorem UK (l : List Ord) (i : Nat) : (X5 l i).length <= 2 := by unfold X5; split <;> split <;> simp
theorem ZdU {l : List Ord} {i : Nat} {v : Vis} (h : v ∈ X5 l i) : v.order = i := by
 unfold X5 at h;rcases List.mem_append.1 h with h | h <;> (split at h <;> simp at h; subst h; rfl)
theorem ZdP (l : List Ord) (c : Bool) (i : Nat) (hi : i < l.length) (hl : l.length <= 1048576) : ACalls Tryz.prog 187 [.p (.list c (l.map QJ)), .p (.int .i64 (i : Nat))] [] fun x H' => x = .sl 0 0 (X5 l i).length (X5 l i).length /\ H' = [.elems 2 ((X5 l i).map eVis)] := by
 suffices hh : ACalls Tryz.prog 187 [.p (.list c (l.map QJ)), .p (.int .i64 (i : Nat))] [] fun x H' => ∃ m : List Vis, m = X5 l i /\ x = .sl 0 0 m.length m.length /\ H' = [.elems 2 (m.map eVis)] by
  refine hh.mono ?_;rintro x H' ⟨m, rfl, h1, h2⟩;exact ⟨h1, h2⟩
 refine ZB [2] Tryz.func187 rfl Ztq ?_;simp (disch := omega) only [Tryz.f187, go_sem, seval];refine Zn (Weak.ofNil 5 2 (by simp (disch := omega) only [go_sem, seval]) (by simp) (Weak.refl _ _ _)) ?_;refine Zd [4] _ _ _ _ ?_;simp (disch := omega) only [go_sem, seval];refine (ZmH l c i hl).use ?_;simp (disch := omega) only [go_sem, seval]
 have h0 : (0 : Int) <= (i : Int) /\ (i : Int) < (l.length : Int) := by omega
 simp (disch := omega) only [h0, go_sem, seval];refine Zq [0, 1] (fun m : List Vis => [(5, .sl 0 0 m.length m.length)]) (fun m => [.elems 2 (m.map eVis)]) (fun m => m = (if 0 <= (nth l i).pick.place then [⟨i, false⟩] else [])) ?_ ?_
 ·simp (disch := omega) only [go_sem, seval];refine cD ?_ ?_ <;> intro h <;> simp (disch := omega) only [Sh.out h, go_sem, seval]
  ·exact ⟨[⟨i, false⟩], by simp [h], wk⟩
  ·exact ⟨[], by simp [h], wk⟩
 ·intro m hm
  have hml : m.length <= 1 := by rw [hm]; split <;> simp
  refine Zd [] _ _ _ _ ?_;simp (disch := omega) only [go_sem, seval];refine cD ?_ ?_ <;> intro h <;> simp (disch := omega) only [Sh.out h, go_sem, seval]
  ·exact ⟨m ++ [⟨i, true⟩], by rw [X5, hm, if_pos h], 0, by simp (disch := omega) only [go_sem, seval]⟩
  ·exact ⟨m, by rw [X5, hm, if_neg h, List.append_nil], 0, by simp (disch := omega) only [go_sem, seval]⟩
theorem visits_c (l : List Ord) (c : Bool) (i : Nat) (hi : i < l.length) (hl : l.length <= 1048576) : PC 187 [.p (.list c (l.map QJ)), .p (.int .i64 (i : Nat))] (.list false ((X5 l i).map eVis)) :=
 (ZdP l c i hi hl).frozen (by simp)
def Wq (l : List Vis) : Bool := (List.range l.length).any fun i => decide (0 <= vIx (l.take i) (nth l i))
theorem ZkM (l : List Vis) (c : Bool) (hl : l.length <= 1048576) : PC 263 [.p (.list c (l.map eVis))] (.bool (Wq l)) := by
 refine Za Tryz.func263 rfl Zqt ?_;simp (disch := omega) only [Tryz.f263, go_sem, seval];refine Zf [0, 5, 6] (fun k : Nat => [(7, .p (.int .i64 k))]) (fun _ => []) (fun k => k <= l.length /\ ∀ j, j < k -> decide (0 <= vIx (l.take j) (nth l j)) = false) (fun k => l.length - k) 0 (by simp) (Weak.mk ?_) ?_
 ·simp (disch := omega) only [go_sem, seval]
 ·rintro k ⟨hk, hno⟩;simp (disch := omega) only [go_sem, seval];refine cD ?_ ?_ <;> intro h <;> simp (disch := omega) only [Sh.out h, go_sem, seval]
  ·have hk2 : k < l.length := by omega
   refine Zi mixed (by kernel_rfl) (by kernel_rfl) ?_;simp (disch := omega) only [go_sem, seval];refine Zm (Ze9 (l.take k) _ (nth l k) (by simp; omega)) ?_;simp (disch := omega) only [go_sem, seval];refine cD ?_ ?_ <;> intro h2 <;> simp (disch := omega) only [Sh.out h2, go_sem, seval]
   ·have : Wq l = true := by rw [Wq, List.any_eq_true]; exact ⟨k, by simpa using hk2, by simpa using h2⟩
    rw [this]
   ·exact ⟨k + 1, ⟨by omega, Zh.2 ⟨hno, by simpa using h2⟩⟩, by omega, wk⟩
  ·have hkl : k = l.length := by omega
   subst hkl
   have : Wq l = false := by rw [Wq, List.any_eq_false]; intro j hj; simpa using hno j (by simpa using hj)
   rw [this]
theorem Qw (l : List Vis) (c : Bool) (g : FuncId) (caps : List V) (H : List AM.Obj) (f : Vis -> Bool) (hl : l.length <= 1048576) (hW : wkH H H.length H H) (hc : refBs H.length caps = true)
  (hg : ∀ v ∈ l, ACalls Tryz.prog g (.p (eVis v) :: caps) H fun x H' => x = .p (.bool (f v)) /\ H' = H) :
  ACalls Tryz.prog 104 [.p (.list c (l.map eVis)), .fn (.func g) [] caps] H fun x H' => x = .p (.int .i64 (fIx f l)) /\ H' = H := by
 refine Xf Tryz.func104 rfl Zjk (Zd [] _ _ _ _ ?_);simp (disch := omega) only [Tryz.f104, go_sem, seval];refine Zf [0, 1, 7] (fun k : Nat => [(8, .p (.int .i64 k))]) (fun _ => H) (fun k => k <= l.length /\ ∀ j, j < k -> f (nth l j) = false) (fun k => l.length - k) 0 (by simp) (Weak.mk ?_) ?_
 ·simp (disch := omega) only [hW, hc, go_sem, seval];simp
 ·rintro k ⟨hk, hno⟩;simp (disch := omega) only [go_sem, seval];refine cD ?_ ?_ <;> intro h <;> simp (disch := omega) only [Sh.out h, go_sem, seval]
  ·have hk2 : k < l.length := by omega
   refine (hg (nth l k) (Zl hk2)).useH ?_;simp (disch := omega) only [go_sem, seval];refine cD ?_ ?_ <;> intro h2 <;> simp (disch := omega) only [Sh.out h2, go_sem, seval]
   ·rw [Zac hk2 h2 hno]
   ·have h3 : f (nth l k) = false := by simpa using h2
    refine ⟨k + 1, ⟨by omega, Zh.2 ⟨hno, h3⟩⟩, by omega, Weak.mk ?_⟩;simp (disch := omega) only [hW, hc, go_sem, seval];simp
  ·have hkl : k = l.length := by omega
   subst hkl;rw [Zcj hno]
theorem YC (l : List Vis) (c : Bool) (g : FuncId) (caps : List V) (H : List AM.Obj) (f : Vis -> Bool) (hl : l.length <= 1048576) (hW : wkH H H.length H H) (hc : refBs H.length caps = true)
  (hg : ∀ v ∈ l, ACalls Tryz.prog g (.p (eVis v) :: caps) H fun x H' => x = .p (.bool (f v)) /\ H' = H) :
  ACalls Tryz.prog 260 [.p (.list c (l.map eVis)), .fn (.func g) [] caps] H fun x H' => x = .p (.bool (l.any f)) /\ H' = H := by
 refine Xf Tryz.func260 rfl Zq4 (Zd [] _ _ _ _ ?_);simp (disch := omega) only [Tryz.f260, go_sem, seval];refine (Qw l c g caps H f hl hW hc hg).useH ?_;simp (disch := omega) only [go_sem, seval];rw [Zce]
def hasO (l : List Vis) (o : Int) : Bool := l.any fun v => decide (v.order = o)
theorem ZsB (v : Vis) (o : Int) : ACalls Tryz.prog 301 [.p (eVis v), .ptr 0 0] [.cells [.p (.int .i64 o)]] fun x H' => x = .p (.bool (decide (v.order = o))) /\ H' = [.cells [.p (.int .i64 o)]] := by
 refine Zc [] Tryz.func301 rfl Zp0 ?_;simp (disch := omega) only [Tryz.f301, go_sem, seval];exact we
theorem Zea (v : Vis) (o : Int) : ACalls Tryz.prog 302 [.p (eVis v), .ptr 0 0] [.cells [.p (.int .i64 o)]] fun x H' => x = .p (.bool (decide (v.order = o))) /\ H' = [.cells [.p (.int .i64 o)]] := by
 refine Zc [] Tryz.func302 rfl Zpt ?_;simp (disch := omega) only [Tryz.f302, go_sem, seval];exact we
theorem UM (l : List Vis) (c : Bool) (o : Int) (hl : l.length <= 1048576) : PC 265 [.p (.list c (l.map eVis)), .p (.int .i64 o)] (.bool (hasO l o)) := by
 refine Za Tryz.func265 rfl Zql ?_;simp (disch := omega) only [Tryz.f265, go_sem, seval];refine (YC l c 301 [.ptr 0 0] [.cells [.p (.int .i64 o)]] (fun v => decide (v.order = o)) hl (by simp (disch := omega) only [go_sem, seval]) (by rfl) (fun v _ => ZsB v o)).useH ?_;simp (disch := omega) only [go_sem, seval];rw [hasO]
def beforeB (l : List Vis) (a b : Int) : Bool := if fIx (fun v => decide (v.order = b)) l < 0 then true else hasO l a && !hasO (l.drop (fIx (fun v => decide (v.order = b)) l).toNat) a
theorem Za0 (l : List Vis) (c : Bool) (a b : Int) (hl : l.length <= 1048576) : PC 266 [.p (.list c (l.map eVis)), .p (.int .i64 a), .p (.int .i64 b)] (.bool (beforeB l a b)) := by
 refine Za Tryz.func266 rfl ZpK ?_;simp (disch := omega) only [Tryz.f266, go_sem, seval];refine (Qw l c 302 [.ptr 0 0] [.cells [.p (.int .i64 b)]] (fun v => decide (v.order = b)) hl (by simp (disch := omega) only [go_sem, seval]) (by rfl) (fun v _ => Zea v b)).useH ?_;have hlt := ZgT (f := fun v => decide (v.order = b)) (l := l);simp (disch := omega) only [go_sem, seval];refine cD ?_ ?_ <;> intro h <;> simp (disch := omega) only [Sh.out h, go_sem, seval]
 ·rw [beforeB, if_pos h]
 ·refine (UM l c a hl).use ?_;simp (disch := omega) only [go_sem, seval];generalize hq : fIx (fun v => decide (v.order = b)) l = q at hlt h ⊢
  cases h2 : hasO l a with
  | false =>
   simp (disch := omega) only [go_sem, seval];rw [beforeB, hq, if_neg h, h2]; rfl
  | true =>
   simp (disch := omega) only [List.take_length, go_sem, seval];refine (UM (l.drop q.toNat) _ a (by simp; omega)).use ?_;simp (disch := omega) only [go_sem, seval];rw [beforeB, hq, if_neg h, h2]; rfl
def Kb (l : List Vis) : Int -> List Vis -> Bool
 | _, [] => true
 | last, w :: r => decide (last < vIx l w) && Kb l (vIx l w) r
def pairB (os : List Ord) (l : List Vis) (v : Vis) : Bool := decide (0 <= vIx (X5 os v.order.toNat) v) && Kb l (-1) (X5 os v.order.toNat)
theorem Za1 (x : Inst) (l : List Vis) (c : Bool) (hl : l.length <= 1048576) (ho : x.orders.length <= 1048576) (hv : ∀ v ∈ l, 0 <= v.order /\ v.order < x.orders.length) :
  PC 264 [.p (ZG x), .p (.list c (l.map eVis))] (.bool (l.all (pairB x.orders l))) := by
 refine Za Tryz.func264 rfl Zr9 ?_;simp (disch := omega) only [Tryz.f264, go_sem, seval];refine Zf [1, 2, 12, 13] (fun k : Nat => [(14, .p (.int .i64 k))]) (fun _ => [Zb x]) (fun k => k <= l.length /\ ∀ j, j < k -> pairB x.orders l (nth l j) = true) (fun k => l.length - k) 0 (by simp) (Weak.mk ?_) ?_
 ·simp (disch := omega) only [Zb, go_sem, seval]
 ·rintro k ⟨hk, hno⟩;simp (disch := omega) only [Zb, go_sem, seval];refine cD ?_ ?_ <;> intro h <;> simp (disch := omega) only [Sh.out h, go_sem, seval]
  ·have hk2 : k < l.length := by omega
   obtain ⟨v1, v2⟩ := hv _ (Zl hk2)
   have hbad : pairB x.orders l (nth l k) = false -> l.all (pairB x.orders l) = false := fun h4 => by
    rw [List.all_eq_false]; exact ⟨nth l k, Zl hk2, by rw [h4]; simp⟩
   obtain ⟨i, hi⟩ : ∃ i : Nat, (nth l k).order = (i : Int) := ⟨(nth l k).order.toNat, by omega⟩
   have hp : pairB x.orders l (nth l k) = (decide (0 <= vIx (X5 x.orders i) (nth l k)) && Kb l (-1) (X5 x.orders i)) := by rw [pairB, hi]; rfl
   rw [hi] at v1 v2;simp (disch := omega) only [hi, go_sem, seval];refine (visits_c x.orders x.orders_c i (by omega) ho).use ?_;simp (disch := omega) only [go_sem, seval];have hvl := UK x.orders i;have hcon := KD (X5 x.orders i) false (nth l k) (by omega);rw [Zgl, hi] at hcon;refine (hcon).use ?_;simp (disch := omega) only [go_sem, seval];refine cD ?_ ?_ <;> intro h2 <;> simp (disch := omega) only [Sh.out h2, go_sem, seval]
   ·rw [hbad (by rw [hp]; simp; intro h3; omega)]
   ·have h2' : 0 <= vIx (X5 x.orders i) (nth l k) := by omega
    generalize hown : X5 x.orders i = own at hvl hp h2' ⊢
    have hp2 : pairB x.orders l (nth l k) = Kb l (-1) own := by rw [hp]; simp [h2']
    refine Zf [1, 2, 12, 13, 14, 27, 28] (fun q : Nat × Int => [(8, .p (.int .i64 q.2)), (29, .p (.int .i64 q.1))]) (fun _ => [Zb x, .cells [.p (.int .i64 (i : Int)), .p (.bool (nth l k).drp)]]) (fun q => q.1 <= own.length /\ Kb l (-1) own = Kb l q.2 (own.drop q.1)) (fun q => own.length - q.1) (0, -1) (by simp) (Weak.mk ?_) ?_
    ·simp (disch := omega) only [Zb, go_sem, seval]
    ·rintro ⟨j, last⟩ ⟨hj, ha⟩;simp only at hj ha;simp (disch := omega) only [Zb, go_sem, seval];refine cD ?_ ?_ <;> intro h3 <;> simp (disch := omega) only [Sh.out h3, go_sem, seval]
     ·have hj2 : j < own.length := by omega
      have hd : own.drop j = nth own j :: own.drop (j + 1) := by rw [List.drop_eq_getElem_cons hj2, Ze hj2]
      rw [hd] at ha;refine (Ze9 l c (nth own j) hl).use ?_;simp (disch := omega) only [go_sem, seval];refine cD ?_ ?_ <;> intro h4 <;> simp (disch := omega) only [Sh.out h4, go_sem, seval]
      ·rw [hbad (by rw [hp2, ha, Kb]; simp; intro h5; omega)]
      ·have h5 : last < vIx l (nth own j) := by omega
       exact ⟨(j + 1, vIx l (nth own j)), ⟨by simp only; omega, by rw [ha, Kb]; simp [h5]⟩, by simp only; omega, Weak.mk (by simp (disch := omega) only [Zb, go_sem, seval])⟩
     ·have hjl : j = own.length := by omega
      subst hjl;exact ⟨k + 1, ⟨by omega, Zh.2 ⟨hno, by rw [hp2, ha]; simp [Kb]⟩⟩, by omega, Weak.mk (by simp (disch := omega) only [Zb, go_sem, seval])⟩
  ·have hkl : k = l.length := by omega
   subst hkl
   have : l.all (pairB x.orders l) = true := by
    rw [List.all_eq_true];intro v hv;obtain ⟨j, hj, rfl⟩ := List.mem_iff_getElem.1 hv;rw [<- Ze hj]; exact hno j hj
   rw [this]
def Zw (r : Rte) : AM.Obj := .cells [.p (.int .i64 r.typ), .p (.int .i64 r.start), .p (.list r.rests_c (r.rests.map eB)), .p (.list r.visits_c (r.visits.map eVis))]
def Vd (x : Inst) (v : Vis) : Bool := !decide (0 <= v.order /\ v.order < (x.orders.length : Int))
theorem Zha (x : Inst) (r : Rte) (v : Vis) (ho : x.orders.length <= 1048576) : ACalls Tryz.prog 261 [.p (eVis v), .ptr 0 0] [Zb x, Zw r] fun y H' => y = .p (.bool (Vd x v)) /\ H' = [Zb x, Zw r] := by
 refine Zc [] Tryz.func261 rfl ZoL ?_;simp (disch := omega) only [Tryz.f261, Zb, Zw, go_sem, seval];refine gF ?_ ?_ <;> intro h <;> simp (disch := omega) only [Sh.out h, go_sem, seval]
 ·have e : Vd x v = true := by
   have : ¬ (0 <= v.order) := by omega
   simp [Vd, this]
  rw [e];exact we (by simp (disch := omega) only [Zb, Zw, go_sem, seval])
 ·have e : Vd x v = decide ((x.orders.length : Int) <= v.order) := by
   have h0 : 0 <= v.order := by omega
   rw [Bool.eq_iff_iff]; simp [Vd, h0]
  rw [e];exact we (by simp (disch := omega) only [Zb, Zw, go_sem, seval])
theorem Zi9 (x : Inst) (r : Rte) (v : Vis) (ho : x.orders.length <= 1048576) (h1 : 0 <= v.order) (h2 : v.order < x.orders.length) : ACalls Tryz.prog 262 [.p (eVis v), .ptr 0 0] [Zb x, Zw r] fun y H' => y = .p (.bool (nth x.orders v.order.toNat).off) /\ H' = [Zb x, Zw r] := by
 have h3 : v.order.toNat < x.orders.length := by omega
 refine Zc [] Tryz.func262 rfl ZtC ?_;simp (disch := omega) only [Tryz.f262, Zb, Zw, Xi, go_sem, seval];exact we (by simp (disch := omega) only [Zb, Zw, go_sem, seval])
def ZQ (x : Inst) (l : List Vis) : Int :=
 if l.length = 0 \/ l.any (Vd x) = true then 2
 else if (l.any fun v => (nth x.orders v.order.toNat).off) = true then 9
 else if Wq l = true then 6
 else if l.all (pairB x.orders l) = false then 19
 else if (x.apart.any fun p => hasO l p.1 && hasO l p.2) = true then 20
 else if (x.before.any fun p => !beforeB l p.1 p.2) = true then 21
 else 0
theorem Zc7 (x : Inst) (r : Rte) (ho : x.orders.length <= 1048576) (hl : r.visits.length <= 1048576) (hap : x.apart.length <= 1048576) (hbe : x.before.length <= 1048576) :
  PC 194 [.p (ZG x), .p (YZ r)] (.int .i64 (ZQ x r.visits)) := by
 refine Za Tryz.func194 rfl ZrD ?_;simp (disch := omega) only [Tryz.f194, go_sem, seval];refine gF ?_ ?_ <;> intro h0 <;> simp (disch := omega) only [Sh.out h0, go_sem, seval]
 ·have : r.visits.length = 0 := by omega
  simp [ZQ, this]
 ·have h00 : ¬ r.visits.length = 0 := by omega
  refine (YC r.visits r.visits_c 261 [.ptr 0 0] [Zb x, Zw r] (Vd x) hl (by simp (disch := omega) only [Zb, Zw, go_sem, seval]) (by rfl) (fun v _ => Zha x r v ho)).useH ?_;simp (disch := omega) only [Zb, Zw, go_sem, seval];refine cD ?_ ?_ <;> intro h1 <;> simp (disch := omega) only [Sh.out h1, go_sem, seval]
  ·rw [ZQ, if_pos (.inr h1)]
  ·have h1' : r.visits.any (Vd x) = false := by simpa using h1
   have c1 : ¬ (r.visits.length = 0 \/ r.visits.any (Vd x) = true) := by rw [h1']; simp; simpa using h00
   have hin : ∀ v ∈ r.visits, 0 <= v.order /\ v.order < x.orders.length := fun v hv => by
    rw [List.any_eq_false] at h1';simpa [Vd] using h1' v hv
   refine (YC r.visits r.visits_c 262 [.ptr 0 0] [Zb x, Zw r] (fun v => (nth x.orders v.order.toNat).off) hl (by simp (disch := omega) only [Zb, Zw, go_sem, seval]) (by rfl) (fun v hv => Zi9 x r v ho (hin v hv).1 (hin v hv).2)).useH ?_;simp (disch := omega) only [Zb, Zw, go_sem, seval];refine cD ?_ ?_ <;> intro h2 <;> simp (disch := omega) only [Sh.out h2, go_sem, seval]
   ·rw [ZQ, if_neg c1, if_pos h2]
   ·refine (ZkM r.visits r.visits_c hl).use ?_;simp (disch := omega) only [go_sem, seval];refine cD ?_ ?_ <;> intro h3 <;> simp (disch := omega) only [Sh.out h3, go_sem, seval]
    ·rw [ZQ, if_neg c1, if_neg (by simpa using h2), if_pos h3]
    ·refine (Za1 x r.visits r.visits_c hl ho hin).use ?_;simp (disch := omega) only [go_sem, seval];refine cD ?_ ?_ <;> intro h4 <;> simp (disch := omega) only [Sh.out h4, go_sem, seval]
     ·have h4' : r.visits.all (pairB x.orders r.visits) = false := by simpa using h4
      rw [ZQ, if_neg c1, if_neg (by simpa using h2), if_neg (by simpa using h3), if_pos h4']
     ·have h4' : r.visits.all (pairB x.orders r.visits) = true := by simpa using h4
      have hc : ZQ x r.visits = if (x.apart.any fun p => hasO r.visits p.1 && hasO r.visits p.2) = true then 20 else if (x.before.any fun p => !beforeB r.visits p.1 p.2) = true then 21 else 0 := by
       rw [ZQ, if_neg c1, if_neg (by simpa using h2), if_neg (by simpa using h3), if_neg (by rw [h4']; simp)]
      clear h4 h4' h3 h2 c1 h1' h1 h0;refine Zf [2, 5, 33, 34] (fun k : Nat => [(35, .p (.int .i64 k))]) (fun _ => [Zb x, Zw r]) (fun k => k <= x.apart.length /\ ∀ j, j < k -> (hasO r.visits (nth x.apart j).1 && hasO r.visits (nth x.apart j).2) = false) (fun k => x.apart.length - k) 0 (by simp) (Weak.mk ?_) ?_
      ·simp (disch := omega) only [Zb, Zw, go_sem, seval]
      ·rintro k ⟨hk, hno⟩;simp (disch := omega) only [Zb, Zw, go_sem, seval];refine cD ?_ ?_ <;> intro h <;> simp (disch := omega) only [Sh.out h, go_sem, seval]
       ·have hk2 : k < x.apart.length := by omega
        refine (UM r.visits r.visits_c (nth x.apart k).1 hl).use ?_;simp (disch := omega) only [go_sem, seval];refine gT ?_ ?_ <;> intro h2 <;> simp (disch := omega) only [Sh.out h2, go_sem, seval]
        ·refine (UM r.visits r.visits_c (nth x.apart k).2 hl).use ?_;simp (disch := omega) only [go_sem, seval];refine cD ?_ ?_ <;> intro h3 <;> simp (disch := omega) only [Sh.out h3, go_sem, seval]
         ·rw [hc, if_pos (V7 hk2 (by rw [h2, h3]; rfl))]
         ·exact ⟨k + 1, ⟨by omega, Zh.2 ⟨hno, by simp [h2]; simpa using h3⟩⟩, by omega, Weak.mk (by simp (disch := omega) only [Zb, Zw, go_sem, seval])⟩
        ·exact ⟨k + 1, ⟨by omega, Zh.2 ⟨hno, by simp [h2]⟩⟩, by omega, Weak.mk (by simp (disch := omega) only [Zb, Zw, go_sem, seval])⟩
       ·have hkl : k = x.apart.length := by omega
        subst hkl;rw [hc, K2 hno];clear hno hk h hc;rw [if_neg (by simp)];refine Zf [5, 51, 52] (fun k : Nat => [(53, .p (.int .i64 k))]) (fun _ => [Zb x, Zw r]) (fun k => k <= x.before.length /\ ∀ j, j < k -> (!beforeB r.visits (nth x.before j).1 (nth x.before j).2) = false) (fun k => x.before.length - k) 0 (by simp) (Weak.mk ?_) ?_
        ·simp (disch := omega) only [Zb, Zw, go_sem, seval]
        ·rintro k ⟨hk, hno⟩;simp (disch := omega) only [Zb, Zw, go_sem, seval];refine cD ?_ ?_ <;> intro h <;> simp (disch := omega) only [Sh.out h, go_sem, seval]
         ·have hk2 : k < x.before.length := by omega
          refine (Za0 r.visits r.visits_c (nth x.before k).1 (nth x.before k).2 hl).use ?_;simp (disch := omega) only [go_sem, seval];refine cD ?_ ?_ <;> intro h2 <;> simp (disch := omega) only [Sh.out h2, go_sem, seval]
          ·have h3 : (!beforeB r.visits (nth x.before k).1 (nth x.before k).2) = true := by simpa using h2
           rw [if_pos (V7 hk2 h3)]
          ·have h3 : (!beforeB r.visits (nth x.before k).1 (nth x.before k).2) = false := by simpa using h2
           exact ⟨k + 1, ⟨by omega, Zh.2 ⟨hno, h3⟩⟩, by omega, Weak.mk (by simp (disch := omega) only [Zb, Zw, go_sem, seval])⟩
         ·have hkl : k = x.before.length := by omega
          subst hkl;rw [K2 hno]
          rfl
@[go_sem] theorem Zui {H : List AM.Obj} {n cs cs'} : wkV H n (.tup cs) (.tup cs') = (cs' = cs /\ refBs n cs = true) := by simp [wkV, frz, refB]
@[go_sem] theorem Zdx {a b : V} : WP [a, b] = .tup [a, b] := Eq.trans rfl rfl
theorem US {g : FuncId} {args : List V} {a b : PV} {H : List AM.Obj} {K : V -> List AM.Obj -> Prop} (h : ACalls Tryz.prog g args [] fun x H' => x = .tup [.p a, .p b] /\ H' = []) (k : K (.tup [.p a, .p b]) H) (ha : refBs 0 args = true := by rfl) : ACalls Tryz.prog g args H K :=
 (h.behind ha H).mono fun x H' hq => by
  obtain ⟨y, H1, ⟨rfl, rfl⟩, rfl, rfl⟩ := hq;simpa [shV, J4] using k
def XJ (l : List Vis) : Nat := l.foldl (fun s v => s ||| pw v.order.toNat) 0
def inS (v : Vis) : Bool := decide (0 <= v.order /\ v.order <= 62)
theorem VD {l : List Vis} {k : Nat} (hk : k < l.length) : XJ (l.take (k + 1)) = XJ (l.take k) ||| pw (nth l k).order.toNat := by
 rw [List.take_succ_eq_append_getElem hk, XJ, List.foldl_append, Ze hk]; rfl
theorem Qc : ∀ (k : Nat) {l : List Vis}, k <= l.length -> (∀ v ∈ l.take k, inS v = true) -> XJ (l.take k) < 9223372036854775808
 | 0, l, _, _ => by simp [XJ]
 | k + 1, l, hk, h => by
  have hk2 : k < l.length := by omega
  have ih := Qc k (l := l) (by omega) fun v hv => h v (List.take_subset_take_left l (by omega) hv);have hv := h (nth l k) (by rw [Ze hk2]; exact List.mem_iff_getElem.2 ⟨k, by simp; omega, by simp⟩);simp only [inS, decide_eq_true_eq] at hv;have h2 : pw (nth l k).order.toNat <= pw 62 := Z3 (by omega);have h3 := Qe;rw [VD hk2];exact Nat.or_lt_two_pow (n := 63) (by omega) (by omega)
def Qy (l : List Vis) : Int × Int := if l.all inS = true then (((XJ l : Nat) : Int), 0) else (0, 2)
theorem WX (r : Rte) (hl : r.visits.length <= 1048576) : PT 59 [.p (YZ r)] [.p (.int .i64 (Qy r.visits).1), .p (.int .i64 (Qy r.visits).2)] := by
 refine Zc [] Tryz.func59 rfl ZwP ?_;simp (disch := omega) only [Tryz.f59, go_sem, seval];refine Zf [8, 9] (fun k : Nat => [(4, .p (.int .i64 (XJ (r.visits.take k) : Nat))), (10, .p (.int .i64 k))]) (fun _ => [Zw r]) (fun k => k <= r.visits.length /\ ∀ j, j < k -> inS (nth r.visits j) = true) (fun k => r.visits.length - k) 0 (by simp) (Weak.mk ?_) ?_
 ·simp (disch := omega) only [Zw, XJ, List.take_zero, List.foldl_nil, go_sem, seval]
 ·rintro k ⟨hk, hno⟩
  have hlt := Qc k hk fun v hv => by
   obtain ⟨j, hj, rfl⟩ := List.mem_iff_getElem.1 hv;simp at hj;rw [List.getElem_take, <- Ze (by omega)];exact hno j (by omega)
  simp (disch := omega) only [Zw, go_sem, seval];refine cD ?_ ?_ <;> intro h <;> simp (disch := omega) only [Sh.out h, go_sem, seval]
  ·have hk2 : k < r.visits.length := by omega
   have hbad : inS (nth r.visits k) = false -> Qy r.visits = (0, 2) := fun h4 => by
    have : r.visits.all inS = false := by rw [List.all_eq_false]; exact ⟨nth r.visits k, Zl hk2, by rw [h4]; simp⟩
    simp [Qy, this]
   have hs := VD hk2
   have hp : (nth r.visits k).order <= 62 -> pw (nth r.visits k).order.toNat <= 4611686018427387904 := fun h => by rw [<- Qe]; exact Z3 (by omega)
   refine gF ?_ ?_ <;> intro h1 <;> simp (disch := omega) only [Sh.out h1, go_sem, seval]
   ·have e := hbad (by simp [inS]; omega);rw [e];exact we
   ·refine cD ?_ ?_ <;> intro h2 <;> simp (disch := omega) only [Sh.out h2, go_sem, seval]
    ·have e := hbad (by simp [inS]; omega);rw [e];exact we
    ·exact ⟨k + 1, ⟨by omega, Zh.2 ⟨hno, by simp [inS]; omega⟩⟩, by omega, Weak.mk (by simp (disch := omega) only [Zw, hs, go_sem, seval])⟩
  ·have hkl : k = r.visits.length := by omega
   subst hkl
   have : r.visits.all inS = true := by
    rw [List.all_eq_true];intro v hv;obtain ⟨j, hj, rfl⟩ := List.mem_iff_getElem.1 hv;rw [<- Ze hj]; exact hno j hj
   have e : Qy r.visits = (((XJ r.visits : Nat) : Int), 0) := by simp [Qy, this]
   rw [e, List.take_length];exact we
def Zlh (a b : Int) : Int := if a < b then -1 else if b < a then 1 else 0
theorem ZfU (a : Int) : PC 140 [.p (.int .i64 a)] (.bool false) := by
 refine Za Tryz.func140 rfl ZsU ?_;simp (disch := omega) only [Tryz.f140, go_sem, seval]
 try simp
theorem ZyF (a b : Int) : PC 93 [.p (.int .i64 a), .p (.int .i64 b)] (.int .i64 (Zlh a b)) := by
 refine Za Tryz.func93 rfl Zwc ?_;simp (disch := omega) only [Tryz.f93, go_sem, seval];refine (ZfU a).use ?_;simp (disch := omega) only [go_sem, seval];refine (ZfU b).use ?_;simp (disch := omega) only [go_sem, seval];refine cD ?_ ?_ <;> intro h <;> simp (disch := omega) only [Sh.out h, go_sem, seval]
 ·simp [Zlh, h]
 ·refine cD ?_ ?_ <;> intro h2 <;> simp (disch := omega) only [Sh.out h2, go_sem, seval]
  ·simp [Zlh, h, h2]
  ·simp [Zlh, h, h2]
def dn (v : Vis) : Int := if v.drp = true then 1 else 0
def Qt (l own : List Vis) : Bool := own.all fun w => decide (0 <= vIx l w)
def ZiB (v : Vis) : AM.Obj := .cells [.p (.int .i64 v.order), .p (.bool v.drp)]
theorem ZgC {l : List Vis} {v : Vis} : -1 <= vIx l v /\ vIx l v < l.length := by
 have := ZgT (f := fun w => decide (v = w)) (l := l);rw [vIx]; omega
def ZB0 (nx : List Vis -> List Vis) : Nat -> List Vis -> List (List Vis) -> List (List Vis) × Bool
 | 0, l, outs => (outs ++ [l], decide (outs.length + 1 <= 8192))
 | f + 1, l, outs => (nx l).foldl (fun acc v => if acc.2 = true then ZB0 nx f (l ++ [v]) acc.1 else acc) (outs, true)
def U6 (S : Nat) (i : Int) : Bool := decide (0 <= i /\ i <= 62) && S.testBit i.toNat
theorem Vw (S : Nat) (i : Int) (hS : S < 9223372036854775808) : PC 283 [.p (.int .i64 (S : Nat)), .p (.int .i64 i)] (.bool (U6 S i)) := by
 refine Za Tryz.func283 rfl Zre ?_;simp (disch := omega) only [Tryz.f283, go_sem, seval];refine gT ?_ ?_ <;> intro h <;> simp (disch := omega) only [Sh.out h, go_sem, seval]
 ·refine gT ?_ ?_ <;> intro h1 <;> simp (disch := omega) only [Sh.out h1, go_sem, seval]
  ·refine gT ?_ ?_ <;> intro h2 <;> simp (disch := omega) only [Sh.out h2, go_sem, seval]
   ·have e : ((S / pw i.toNat : Nat) : Int).tmod 2 = ((S / pw i.toNat % 2 : Nat) : Int) := by rw [Int.tmod_eq_emod_of_nonneg (Int.natCast_nonneg _)]; exact (Int.natCast_emod _ _).symm
    rw [e];have h3 : (((S / pw i.toNat % 2 : Nat) : Int) = 1) = (S.testBit i.toNat = true) := Zbz;have h4 : 0 <= i /\ i <= 62 := ⟨h1, h2⟩;simp only [h3, U6, h4, and_self, decide_true, Bool.true_and, Bool.decide_eq_true]
   ·simp [U6, h2]
  ·simp [U6, h1]
 ·omega
theorem ZaN (x : Inst) (i : Nat) (hi : i < x.orders.length) (hl : x.orders.length <= 1048576) (hpl : ∀ o ∈ x.orders, -1 <= o.pick.place /\ -1 <= o.drp.place) : ACalls Tryz.prog 284 [.p (ZG x), .p (.int .i64 (i : Nat))] [] fun y H' => y = .sl 0 0 (X5 x.orders i).length (X5 x.orders i).length /\ H' = [.elems 2 ((X5 x.orders i).map eVis)] := by
 suffices hh : ACalls Tryz.prog 284 [.p (ZG x), .p (.int .i64 (i : Nat))] [] fun y H' => ∃ m : List Vis, m = X5 x.orders i /\ y = .sl 0 0 m.length m.length /\ H' = [.elems 2 (m.map eVis)] by
  refine hh.mono ?_;rintro x H' ⟨m, rfl, h1, h2⟩;exact ⟨h1, h2⟩
 obtain ⟨h1, h2⟩ := hpl _ (Zl hi);refine ZB [2] Tryz.func284 rfl Ztp ?_;simp (disch := omega) only [Tryz.f284, go_sem, seval];refine Zn (Weak.ofNil 5 2 (by simp (disch := omega) only [go_sem, seval]) (by simp) (Weak.refl _ _ _)) ?_;refine Zq [1, 2] (fun m : List Vis => [(5, .sl 1 0 m.length m.length)]) (fun m => [Zb x, .elems 2 (m.map eVis)]) (fun m => m = (if 0 <= (nth x.orders i).pick.place then [⟨i, false⟩] else [])) ?_ ?_
 ·simp (disch := omega) only [go_sem, seval];refine cD ?_ ?_ <;> intro h <;> simp (disch := omega) only [Sh.out h, go_sem, seval]
  ·exact ⟨[⟨i, false⟩], by rw [if_pos (by omega)], Weak.mk (by simp (disch := omega) only [Zb, go_sem, seval])⟩
  ·exact ⟨[], by rw [if_neg (by omega)], Weak.mk (by simp (disch := omega) only [Zb, go_sem, seval])⟩
 ·intro m hm
  have hml : m.length <= 1 := by rw [hm]; split <;> simp
  refine Zd [] _ _ _ _ ?_;simp (disch := omega) only [Zb, go_sem, seval];refine cD ?_ ?_ <;> intro h <;> simp (disch := omega) only [Sh.out h, go_sem, seval]
  ·exact ⟨m ++ [⟨i, true⟩], by rw [X5, hm, if_pos (c := 0 <= (nth x.orders i).drp.place) (by omega)], 1, by simp (disch := omega) only [go_sem, seval]⟩
  ·exact ⟨m, by rw [X5, hm, if_neg (c := 0 <= (nth x.orders i).drp.place) (by omega), List.append_nil], 1, by simp (disch := omega) only [go_sem, seval]⟩
theorem ZeC (x : Inst) (i : Nat) (hi : i < x.orders.length) (hl : x.orders.length <= 1048576) (hpl : ∀ o ∈ x.orders, -1 <= o.pick.place /\ -1 <= o.drp.place) : PC 284 [.p (ZG x), .p (.int .i64 (i : Nat))] (.list false ((X5 x.orders i).map eVis)) :=
 (ZaN x i hi hl hpl).frozen (by simp)
theorem Vr (l : List Vis) (c : Bool) (v : Vis) (hl : l.length <= 1048576) : PC 222 [.p (.list c (l.map eVis)), .p (eVis v)] (.int .i64 (vIx l v)) := by
 refine Za Tryz.func222 rfl ZtH ?_;simp (disch := omega) only [Tryz.f222, go_sem, seval];refine Zf [0, 3] (fun k : Nat => [(5, .p (.int .i64 k))]) (fun _ => [ZiB v]) (fun k => k <= l.length /\ ∀ j, j < k -> decide (v = nth l j) = false) (fun k => l.length - k) 0 (by simp) (Weak.mk ?_) ?_
 ·simp (disch := omega) only [ZiB, go_sem, seval]
 ·rintro k ⟨hk, hno⟩;simp (disch := omega) only [ZiB, go_sem, seval];refine cD ?_ ?_ <;> intro h <;> simp (disch := omega) only [Sh.out h, go_sem, seval]
  ·have hk2 : k < l.length := by omega
   refine Zi mixed (by kernel_rfl) (by kernel_rfl) ?_;simp (disch := omega) only [go_sem, seval];refine cD ?_ ?_ <;> intro h2 <;> simp (disch := omega) only [Sh.out h2, go_sem, seval]
   ·have : v = nth l k := Eq.symm (by rw [Zfq]; simpa using h2);rw [vIx, Zac hk2 (by simpa using this) hno]
   ·have : ¬ v = nth l k := fun e => by rw [<- e] at h2; simp at h2
    exact ⟨k + 1, ⟨by omega, Zh.2 ⟨hno, by simpa using this⟩⟩, by omega, Weak.mk (by simp (disch := omega) only [ZiB, go_sem, seval])⟩
  ·have hkl : k = l.length := by omega
   subst hkl;rw [vIx, Zcj hno]
theorem Zbm (l s : List Vis) (c d : Bool) (hl : l.length <= 1048576) (hs : s.length <= 1048576) : PC 285 [.p (.list c (l.map eVis)), .p (.list d (s.map eVis))] (.bool (Qt l s)) := by
 refine Za Tryz.func285 rfl Zqg ?_;simp (disch := omega) only [Tryz.f285, go_sem, seval];refine Zf [0, 1] (fun k : Nat => [(5, .p (.int .i64 k))]) (fun _ => []) (fun k => k <= s.length /\ ∀ j, j < k -> decide (0 <= vIx l (nth s j)) = true) (fun k => s.length - k) 0 (by simp) (Weak.mk ?_) ?_
 ·simp (disch := omega) only [go_sem, seval]
 ·rintro k ⟨hk, hno⟩;simp (disch := omega) only [go_sem, seval];refine cD ?_ ?_ <;> intro h <;> simp (disch := omega) only [Sh.out h, go_sem, seval]
  ·have hk2 : k < s.length := by omega
   refine (Vr l c (nth s k) hl).use ?_;simp (disch := omega) only [go_sem, seval];refine cD ?_ ?_ <;> intro h2 <;> simp (disch := omega) only [Sh.out h2, go_sem, seval]
   ·have : Qt l s = false := by rw [Qt, List.all_eq_false]; exact ⟨nth s k, Zl hk2, by simp; omega⟩
    rw [this]
   ·exact ⟨k + 1, ⟨by omega, Zh.2 ⟨hno, by simp; omega⟩⟩, by omega, wk⟩
  ·have hkl : k = s.length := by omega
   subst hkl
   have : Qt l s = true := by
    rw [Qt, List.all_eq_true];intro w hw;obtain ⟨j, hj, rfl⟩ := List.mem_iff_getElem.1 hw;rw [<- Ze hj]; exact hno j hj
   rw [this]
theorem ZgR {S n : Nat} (h : S.testBit n = true) : S ||| pw n = S := by
 apply Nat.eq_of_testBit_eq;intro i;rw [Nat.testBit_or, Z5]
 by_cases h2 : n = i
 ·subst h2; simp [h]
 ·simp [h2]
theorem ZhH {S n : Nat} (h : S.testBit n = false) : S ||| pw n = S + pw n := by
 have e : S % 2 ^ (n + 1) = S % 2 ^ n + 2 ^ n * (S / 2 ^ n % 2) := Nat.mod_pow_succ;rw [Nat.testBit_eq_decide_div_mod_eq] at h
 have h0 : S / 2 ^ n % 2 = 0 := by simp at h; omega
 rw [h0, Nat.mul_zero, Nat.add_zero] at e;have hp : 0 < 2 ^ n := Nat.two_pow_pos n
 have hs : 2 ^ (n + 1) = 2 ^ n + 2 ^ n := by rw [Nat.pow_succ]; omega
 have r1 : S % 2 ^ (n + 1) < 2 ^ n := by rw [e]; exact Nat.mod_lt _ hp
 have e1 := Nat.two_pow_add_eq_or_of_lt (i := n) r1 1;have e2 := Nat.two_pow_add_eq_or_of_lt (i := n + 1) (b := 2 ^ n * 1 + S % 2 ^ (n + 1)) (by omega) (S / 2 ^ (n + 1));have e3 := Nat.two_pow_add_eq_or_of_lt (i := n + 1) (b := S % 2 ^ (n + 1)) (by omega) (S / 2 ^ (n + 1));have e4 := Nat.div_add_mod S (2 ^ (n + 1));rw [pw]
 calc S ||| 2 ^ n = (2 ^ (n + 1) * (S / 2 ^ (n + 1)) + S % 2 ^ (n + 1)) ||| 2 ^ n := by rw [e4]
  _ = 2 ^ (n + 1) * (S / 2 ^ (n + 1)) ||| (2 ^ n * 1 ||| S % 2 ^ (n + 1)) := by rw [e3, Nat.or_assoc, Nat.mul_one, Nat.or_comm (2 ^ n)]
  _ = 2 ^ (n + 1) * (S / 2 ^ (n + 1)) + (2 ^ n * 1 + S % 2 ^ (n + 1)) := by rw [<- e1, <- e2]
  _ = S + 2 ^ n := by omega
theorem ZfP (r : Rte) (hl : r.visits.length <= 1048576) : PT 221 [.p (YZ r)] [.p (.int .i64 (Qy r.visits).1), .p (.int .i64 (Qy r.visits).2)] := by
 refine Zc [] Tryz.func221 rfl Zq1 ?_;simp (disch := omega) only [Tryz.f221, go_sem, seval];refine Zf [1] (fun k : Nat => [(4, .p (.int .i64 (XJ (r.visits.take k) : Nat))), (5, .p (.int .i64 k))]) (fun _ => [Zw r]) (fun k => k <= r.visits.length /\ ∀ j, j < k -> inS (nth r.visits j) = true) (fun k => r.visits.length - k) 0 (by simp) (Weak.mk ?_) ?_
 ·simp (disch := omega) only [Zw, XJ, List.take_zero, List.foldl_nil, go_sem, seval]
 ·rintro k ⟨hk, hno⟩
  have hlt := Qc k hk fun v hv => by
   obtain ⟨j, hj, rfl⟩ := List.mem_iff_getElem.1 hv;simp at hj;rw [List.getElem_take, <- Ze (by omega)];exact hno j (by omega)
  simp (disch := omega) only [Zw, go_sem, seval];refine cD ?_ ?_ <;> intro h <;> simp (disch := omega) only [Sh.out h, go_sem, seval]
  ·have hk2 : k < r.visits.length := by omega
   have hbad : inS (nth r.visits k) = false -> Qy r.visits = (0, 2) := fun h4 => by
    have : r.visits.all inS = false := by rw [List.all_eq_false]; exact ⟨nth r.visits k, Zl hk2, by rw [h4]; simp⟩
    simp [Qy, this]
   have hs := VD hk2
   have hp : (nth r.visits k).order <= 62 -> pw (nth r.visits k).order.toNat <= 4611686018427387904 := fun h => by rw [<- Qe]; exact Z3 (by omega)
   refine gF ?_ ?_ <;> intro h1 <;> simp (disch := omega) only [Sh.out h1, go_sem, seval]
   ·have e := hbad (by simp [inS]; omega);rw [e];exact we
   ·refine cD ?_ ?_ <;> intro h2 <;> simp (disch := omega) only [Sh.out h2, go_sem, seval]
    ·have e := hbad (by simp [inS]; omega);rw [e];exact we
    ·have h4 := hp (by omega);refine (Vw (XJ (r.visits.take k)) (nth r.visits k).order hlt).use ?_;simp (disch := omega) only [go_sem, seval]
     have hin : 0 <= (nth r.visits k).order /\ (nth r.visits k).order <= 62 := by omega
     have hnh : U6 (XJ (r.visits.take k)) (nth r.visits k).order = (XJ (r.visits.take k)).testBit (nth r.visits k).order.toNat := by simp [U6, hin]
     rw [hnh];have hno2 := (Zh (p := fun j => inS (nth r.visits j) = true)).2 ⟨hno, by simp [inS]; omega⟩
     have hlt2 := Qc (k + 1) hk2 fun v hv => by
      obtain ⟨j, hj, rfl⟩ := List.mem_iff_getElem.1 hv;simp at hj;rw [List.getElem_take, <- Ze (by omega)];exact hno2 j (by omega)
     refine cD ?_ ?_ <;> intro h5 <;> simp (disch := omega) only [Sh.out h5, go_sem, seval]
     ·have h6 : (XJ (r.visits.take k)).testBit (nth r.visits k).order.toNat = false := by simpa using h5
      rw [ZhH h6] at hs;rw [hs] at hlt2;exact ⟨k + 1, ⟨by omega, hno2⟩, by omega, Weak.mk (by simp (disch := omega) only [Zw, hs, Int.natCast_add, go_sem, seval])⟩
     ·have h6 : (XJ (r.visits.take k)).testBit (nth r.visits k).order.toNat = true := by simpa using h5
      rw [ZgR h6] at hs;exact ⟨k + 1, ⟨by omega, hno2⟩, by omega, Weak.mk (by simp (disch := omega) only [Zw, hs, go_sem, seval])⟩
  ·have hkl : k = r.visits.length := by omega
   subst hkl
   have : r.visits.all inS = true := by
    rw [List.all_eq_true];intro v hv;obtain ⟨j, hj, rfl⟩ := List.mem_iff_getElem.1 hv;rw [<- Ze hj]; exact hno j hj
   have e : Qy r.visits = (((XJ r.visits : Nat) : Int), 0) := by simp [Qy, this]
   rw [e, List.take_length];exact we
def Plc (x : Inst) : Prop := ∀ o ∈ x.orders, -1 <= o.pick.place /\ -1 <= o.drp.place
theorem ZlZ {l : List Vis} {v w : Vis} (h : vIx l v = vIx l w) (h0 : 0 <= vIx l v) : v = w := by
 unfold vIx fIx at h h0
 cases hv : l.findIdx? (fun u => decide (v = u)) with
 | none => rw [hv] at h0; simp at h0
 | some i =>
  rw [hv] at h
  cases hw : l.findIdx? (fun u => decide (w = u)) with
  | none => rw [hw] at h; simp at h
  | some j =>
   rw [hw] at h
   have hij : i = j := by simp at h; omega
   subst hij;rw [List.findIdx?_eq_some_iff_getElem] at hv hw;obtain ⟨h1, h2, _⟩ := hv;obtain ⟨_, h4, _⟩ := hw;simp at h2 h4;rw [h2, h4]
theorem Zdn (os : List Ord) (i : Nat) : X5 os i = [] \/ X5 os i = [⟨i, false⟩] \/ X5 os i = [⟨i, true⟩] \/ X5 os i = [⟨i, false⟩, ⟨i, true⟩] := by
 unfold X5; split <;> split <;> simp
theorem ZhV {l own : List Vis} (ho : own = [] \/ (∃ v, own = [v]) \/ ∃ v w, own = [v, w] /\ v ≠ w) :
  Kb l (-1) own = (Qt l own && !(decide (own.length = 2) && decide (vIx l (nth own 1) < vIx l (nth own 0)))) := by
 rcases ho with rfl | ⟨v, rfl⟩ | ⟨v, w, rfl, hne⟩
 ·rfl
 ·have := @ZgC l v
  by_cases h : 0 <= vIx l v
  ·have : -1 < vIx l v := by omega
   simp [Kb, Qt, h, this]
  ·have : ¬ -1 < vIx l v := by omega
   simp [Kb, Qt, h, this]
 ·have hne2 : 0 <= vIx l v -> vIx l v ≠ vIx l w := fun h0 h => hne (ZlZ h h0);have h1 := @ZgC l v;have h2 := @ZgC l w;rw [Bool.eq_iff_iff];simp [Kb, Qt, nth];omega
theorem ZhQ (os : List Ord) (i : Nat) : X5 os i = [] \/ (∃ v, X5 os i = [v]) \/ ∃ v w, X5 os i = [v, w] /\ v ≠ w := by
 rcases Zdn os i with h | h | h | h
 ·exact .inl h
 ·exact .inr (.inl ⟨_, h⟩)
 ·exact .inr (.inl ⟨_, h⟩)
 ·exact .inr (.inr ⟨_, _, h, by simp⟩)
theorem Zb6 {α : Type} [Inhabited α] {l : List α} {f : α -> Bool} {k : Nat} (hk : k < l.length) (h : f (nth l k) = false) : l.all f = false := by
 rw [List.all_eq_false]; exact ⟨nth l k, Zl hk, by rw [h]; simp⟩
theorem Zex {α : Type} [Inhabited α] {l : List α} {f : α -> Bool} (h : ∀ j, j < l.length -> f (nth l j) = true) : l.all f = true := by
 rw [List.all_eq_true];intro v hv;obtain ⟨j, hj, rfl⟩ := List.mem_iff_getElem.1 hv;rw [<- Ze hj]; exact h j hj
theorem ZeG (x : Inst) (l : List Vis) (c : Bool) (hl : l.length <= 1048576) (ho : x.orders.length <= 1048576) (hp : Plc x) (hv : ∀ v ∈ l, 0 <= v.order /\ v.order < x.orders.length) :
  PC 223 [.p (ZG x), .p (.list c (l.map eVis))] (.bool (l.all (pairB x.orders l))) := by
 refine Za Tryz.func223 rfl Zqa ?_;simp (disch := omega) only [Tryz.f223, go_sem, seval];refine Zf [1, 2] (fun k : Nat => [(5, .p (.int .i64 k))]) (fun _ => [Zb x]) (fun k => k <= l.length /\ ∀ j, j < k -> pairB x.orders l (nth l j) = true) (fun k => l.length - k) 0 (by simp) (Weak.mk ?_) ?_
 ·simp (disch := omega) only [Zb, go_sem, seval]
 ·rintro k ⟨hk, hno⟩;simp (disch := omega) only [Zb, go_sem, seval];refine cD ?_ ?_ <;> intro h <;> simp (disch := omega) only [Sh.out h, go_sem, seval]
  ·have hk2 : k < l.length := by omega
   obtain ⟨v1, v2⟩ := hv _ (Zl hk2);obtain ⟨i, hi⟩ : ∃ i : Nat, (nth l k).order = (i : Int) := ⟨(nth l k).order.toNat, by omega⟩;rw [hi] at v1 v2
   have hpb : pairB x.orders l (nth l k) = (decide (0 <= vIx (X5 x.orders i) (nth l k)) && Kb l (-1) (X5 x.orders i)) := by rw [pairB, hi]; rfl
   have hown := ZhQ x.orders i;rw [ZhV hown] at hpb;refine Zi mixed (by kernel_rfl) (by kernel_rfl) ?_;simp (disch := omega) only [hi, go_sem, seval];refine Zm (ZeC x i (by omega) ho hp) ?_;simp (disch := omega) only [go_sem, seval];have hvl := UK x.orders i;generalize X5 x.orders i = own at hvl hpb;have hix := Vr own false (nth l k) (by omega);rw [Zgl, hi] at hix;refine Zi mixed (by kernel_rfl) (by kernel_rfl) ?_;simp (disch := omega) only [hi, go_sem, seval];refine Zm (hix) ?_;simp (disch := omega) only [go_sem, seval];refine gF ?_ ?_ <;> intro h2 <;> simp (disch := omega) only [Sh.out h2, go_sem, seval]
   ·have h3 : ¬ 0 <= vIx own (nth l k) := by omega
    rw [Zb6 hk2 (by rw [hpb]; simp [h3])]
   ·have h3 : 0 <= vIx own (nth l k) := by omega
    have hgo : pairB x.orders l (nth l k) = true -> ∀ j, j < k + 1 -> pairB x.orders l (nth l j) = true := fun e => Zh.2 ⟨hno, e⟩;refine Zm (Zbm l own c false hl (by omega)) ?_;simp (disch := omega) only [go_sem, seval];refine gF ?_ ?_ <;> intro h4 <;> simp (disch := omega) only [Sh.out h4, go_sem, seval]
    ·have h5 : Qt l own = false := by simpa using h4
     rw [Zb6 hk2 (by rw [hpb, h5]; simp)]
    ·have h5 : Qt l own = true := by simpa using h4
     rw [h5] at hpb;refine gT ?_ ?_ <;> intro h6 <;> simp (disch := omega) only [Sh.out h6, go_sem, seval]
     ·have h7 : own.length = 2 := by omega
      refine Zm (Vr l c (nth own 0) hl) ?_;simp (disch := omega) only [go_sem, seval];refine Zm (Vr l c (nth own 1) hl) ?_;simp (disch := omega) only [go_sem, seval];refine cD ?_ ?_ <;> intro h8 <;> simp (disch := omega) only [Sh.out h8, go_sem, seval]
      ·rw [Zb6 hk2 (by rw [hpb]; simp [h7, h8])]
      ·exact ⟨k + 1, ⟨by omega, hgo (by rw [hpb]; simp [h3]; omega)⟩, by omega, Weak.mk (by simp (disch := omega) only [Zb, go_sem, seval])⟩
     ·exact ⟨k + 1, ⟨by omega, hgo (by rw [hpb]; simp [h3]; omega)⟩, by omega, Weak.mk (by simp (disch := omega) only [Zb, go_sem, seval])⟩
  ·have hkl : k = l.length := by omega
   subst hkl;rw [Zex hno]
def apB (x : Inst) (S : Nat) : Bool := x.apart.any fun p => U6 S p.1 && U6 S p.2
theorem Zit (x : Inst) (S : Nat) (hS : S < 9223372036854775808) (ha : x.apart.length <= 1048576) : PC 224 [.p (ZG x), .p (.int .i64 (S : Nat))] (.bool (!apB x S)) := by
 refine Za Tryz.func224 rfl ZrV ?_;simp (disch := omega) only [Tryz.f224, go_sem, seval];refine Zf [1, 2] (fun k : Nat => [(5, .p (.int .i64 k))]) (fun _ => [Zb x]) (fun k => k <= x.apart.length /\ ∀ j, j < k -> (U6 S (nth x.apart j).1 && U6 S (nth x.apart j).2) = false) (fun k => x.apart.length - k) 0 (by simp) (Weak.mk ?_) ?_
 ·simp (disch := omega) only [Zb, go_sem, seval]
 ·rintro k ⟨hk, hno⟩;simp (disch := omega) only [Zb, go_sem, seval];refine cD ?_ ?_ <;> intro h <;> simp (disch := omega) only [Sh.out h, go_sem, seval]
  ·have hk2 : k < x.apart.length := by omega
   refine (Vw S (nth x.apart k).1 hS).use ?_;simp (disch := omega) only [go_sem, seval];refine gT ?_ ?_ <;> intro h2 <;> simp (disch := omega) only [Sh.out h2, go_sem, seval]
   ·refine (Vw S (nth x.apart k).2 hS).use ?_;simp (disch := omega) only [go_sem, seval];refine cD ?_ ?_ <;> intro h3 <;> simp (disch := omega) only [Sh.out h3, go_sem, seval]
    ·have : apB x S = true := V7 hk2 (by rw [h2, h3]; rfl);rw [this]; rfl
    ·exact ⟨k + 1, ⟨by omega, Zh.2 ⟨hno, by rw [h2, h3]; rfl⟩⟩, by omega, Weak.mk (by simp (disch := omega) only [Zb, go_sem, seval])⟩
   ·exact ⟨k + 1, ⟨by omega, Zh.2 ⟨hno, by rw [h2]; rfl⟩⟩, by omega, Weak.mk (by simp (disch := omega) only [Zb, go_sem, seval])⟩
  ·have hkl : k = x.apart.length := by omega
   subst hkl;have : apB x S = false := K2 hno;rw [this]; rfl
def Vv (l : List Vis) (a b : Int) (j k : Nat) : Bool := decide ((nth l j).order = a) && decide ((nth l k).order = b)
def Vk (S : Nat) (l : List Vis) (p : Int × Int) : Bool := !U6 S p.2 || (U6 S p.1 && (List.range l.length).all fun j => (List.range j).all fun k => !Vv l p.1 p.2 j k)
theorem ZfO (x : Inst) (S : Nat) (l : List Vis) (c : Bool) (hS : S < 9223372036854775808) (hl : l.length <= 1048576) (hb : x.before.length <= 1048576) : PC 225 [.p (ZG x), .p (.int .i64 (S : Nat)), .p (.list c (l.map eVis))] (.bool (x.before.all (Vk S l))) := by
 refine Za Tryz.func225 rfl Zrh ?_;simp (disch := omega) only [Tryz.f225, go_sem, seval];refine Zf [1, 2, 3] (fun k : Nat => [(7, .p (.int .i64 k))]) (fun _ => [Zb x]) (fun k => k <= x.before.length /\ ∀ j, j < k -> Vk S l (nth x.before j) = true) (fun k => x.before.length - k) 0 (by simp) (Weak.mk ?_) ?_
 ·simp (disch := omega) only [Zb, go_sem, seval]
 ·rintro i ⟨hi, hno⟩;simp (disch := omega) only [Zb, go_sem, seval];refine cD ?_ ?_ <;> intro h <;> simp (disch := omega) only [Sh.out h, go_sem, seval]
  ·have hi2 : i < x.before.length := by omega
   have hgo : Vk S l (nth x.before i) = true -> ∀ j, j < i + 1 -> Vk S l (nth x.before j) = true := fun e => Zh.2 ⟨hno, e⟩;have hbad : Vk S l (nth x.before i) = false -> x.before.all (Vk S l) = false := fun e => Zb6 hi2 e;have hdef : Vk S l (nth x.before i) = (!U6 S (nth x.before i).2 || (U6 S (nth x.before i).1 && (List.range l.length).all fun j => (List.range j).all fun k => !Vv l (nth x.before i).1 (nth x.before i).2 j k)) := rfl;generalize Vk S l (nth x.before i) = R at hgo hbad hdef;generalize nth x.before i = p at hdef ⊢;refine (Vw S p.2 hS).use ?_;simp (disch := omega) only [go_sem, seval]
   refine cD ?_ ?_ <;> intro h2 <;> simp (disch := omega) only [Sh.out h2, go_sem, seval]
   ·have h3 : U6 S p.2 = false := by simpa using h2
    exact ⟨i + 1, ⟨by omega, hgo (by rw [hdef, h3]; rfl)⟩, by omega, Weak.mk (by simp (disch := omega) only [Zb, go_sem, seval])⟩
   ·have h3 : U6 S p.2 = true := by simpa using h2
    refine (Vw S p.1 hS).use ?_;simp (disch := omega) only [go_sem, seval];refine cD ?_ ?_ <;> intro h4 <;> simp (disch := omega) only [Sh.out h4, go_sem, seval]
    ·have h5 : U6 S p.1 = false := by simpa using h4
     rw [hbad (by rw [hdef, h3, h5]; rfl)]
    ·have h5 : U6 S p.1 = true := by simpa using h4
     rw [h3, h5] at hdef;simp only [Bool.not_true, Bool.false_or, Bool.true_and] at hdef;refine Zf [1, 2, 3, 7, 8, 9] (fun k : Nat => [(10, .p (.int .i64 k))]) (fun _ => [Zb x]) (fun k => k <= l.length /\ ∀ j, j < k -> ∀ q, q < j -> Vv l p.1 p.2 j q = false) (fun k => l.length - k) 0 (by simp) (Weak.mk ?_) ?_
     ·simp (disch := omega) only [Zb, go_sem, seval]
     ·rintro j ⟨hj, hnj⟩;simp (disch := omega) only [Zb, go_sem, seval];refine cD ?_ ?_ <;> intro h6 <;> simp (disch := omega) only [Sh.out h6, go_sem, seval]
      ·have hj2 : j < l.length := by omega
       refine Zf [1, 2, 3, 7, 8, 9, 10] (fun k : Nat => [(11, .p (.int .i64 k))]) (fun _ => [Zb x]) (fun k => k <= j /\ ∀ q, q < k -> Vv l p.1 p.2 j q = false) (fun k => j - k) 0 (by simp) (Weak.mk ?_) ?_
       ·simp (disch := omega) only [Zb, go_sem, seval]
       ·rintro k ⟨hk, hnk⟩;simp (disch := omega) only [Zb, go_sem, seval];refine cD ?_ ?_ <;> intro h7 <;> simp (disch := omega) only [Sh.out h7, go_sem, seval]
        ·have hk2 : k < j := by omega
         refine gT ?_ ?_ <;> intro h8 <;> simp (disch := omega) only [Sh.out h8, go_sem, seval]
         ·refine cD ?_ ?_ <;> intro h9 <;> simp (disch := omega) only [Sh.out h9, go_sem, seval]
          ·rw [hbad (by
            rw [hdef, List.all_eq_false];refine ⟨j, by simpa using hj2, ?_⟩;rw [Bool.not_eq_true, List.all_eq_false]
            exact ⟨k, by simpa using hk2, by simp [Vv, h8, h9]⟩)]
          ·exact ⟨k + 1, ⟨by omega, Zh.2 ⟨hnk, by simp [Vv, h9]⟩⟩, by omega, Weak.mk (by simp (disch := omega) only [Zb, go_sem, seval])⟩
         ·exact ⟨k + 1, ⟨by omega, Zh.2 ⟨hnk, by simp [Vv, h8]⟩⟩, by omega, Weak.mk (by simp (disch := omega) only [Zb, go_sem, seval])⟩
        ·have hkl : k = j := by omega
         subst hkl;exact ⟨k + 1, ⟨by omega, (Zh (p := fun j => ∀ q, q < j -> Vv l p.1 p.2 j q = false)).2 ⟨hnj, hnk⟩⟩, by omega, Weak.mk (by simp (disch := omega) only [Zb, go_sem, seval])⟩
      ·have hjl : j = l.length := by omega
       subst hjl;refine ⟨i + 1, ⟨by omega, hgo ?_⟩, by omega, Weak.mk (by simp (disch := omega) only [Zb, go_sem, seval])⟩;rw [hdef, List.all_eq_true];intro j hj;rw [List.all_eq_true];intro k hk;simp at hj hk;simp [hnj j hj k hk]
  ·have hkl : i = x.before.length := by omega
   subst hkl;rw [Zex hno]
theorem ZiC {S : Nat} {i : Int} : U6 S i = true ↔ 0 <= i /\ i <= 62 /\ S.testBit i.toNat = true := by simp [U6, and_assoc]
theorem Xl {S : Nat} {a : Int} : a ∈ Z6 (S : Int) 63 ↔ ∃ i : Nat, a = (i : Int) /\ i < 63 /\ S.testBit i = true := by
 simp only [Z6, List.mem_map, List.mem_filter, List.mem_range]
 constructor
 ·rintro ⟨i, ⟨h1, h2⟩, rfl⟩;rw [VL S i (by omega)] at h2;exact ⟨i, rfl, h1, h2⟩
 ·rintro ⟨i, rfl, h1, h2⟩;exact ⟨i, ⟨h1, by rw [VL S i (by omega)]; exact h2⟩, rfl⟩
theorem Uc {c : Prop} [Decidable c] {a b : Int} (ha : a ≠ 0) : (if c then a else b) = 0 ↔ ¬ c /\ b = 0 := by
 by_cases h : c <;> simp [h, ha]
theorem W3 {l : List Vis} {v : Vis} : 0 <= vIx l v ↔ v ∈ l := by
 have := Zce (f := fun w => decide (v = w)) (l := l)
 have h2 : (l.any fun w => decide (v = w)) = true ↔ v ∈ l := by
  rw [List.any_eq_true];exact ⟨fun ⟨w, hw, e⟩ => by simp at e; rw [e]; exact hw, fun h => ⟨v, h, by simp⟩⟩
 rw [<- h2, <- this, vIx]; simp
def Vne (x : Inst) : Prop := ∀ i, i < x.orders.length -> X5 x.orders i ≠ []
def Zx (p : Pln) : AM.Obj := .cells [.p (.list p.routes_c (p.routes.map YZ)), .p (.list p.unserved_c (p.unserved.map eI))]
def rteB (r : Rte) : Prop := r.visits.length <= 1048576 /\ r.rests.length <= 1048576
def XH (l : List Int) : Nat := l.foldl (fun s i => s ||| pw i.toNat) 0
theorem Kh (l : List Int) (i : Int) : XH (l ++ [i]) = XH l ||| pw i.toNat := by simp [XH]
theorem UZ {l : List Int} {k : Nat} (h : k < l.length) : XH (l.take (k + 1)) = XH (l.take k) ||| pw (nth l k).toNat := by
 rw [List.take_succ_eq_append_getElem h, Kh, Ze h]
theorem Zfg (l : List Int) (j : Nat) : ∀ s : Nat, (l.foldl (fun s i => s ||| pw i.toNat) s).testBit j = (s.testBit j || l.any fun i => decide (i.toNat = j)) := by
 induction l with
 | nil => simp
 | cons a l ih =>
  intro s;rw [List.foldl_cons, ih, Nat.testBit_or, Z5, List.any_cons, Bool.or_assoc]
theorem UH (l : List Int) (j : Nat) : (XH l).testBit j = l.any fun i => decide (i.toNat = j) := by
 rw [XH, Zfg]; simp
theorem XA {l : List Int} {j : Nat} : (XH l).testBit j = true ↔ ∃ i ∈ l, i.toNat = j := by
 rw [UH, List.any_eq_true]; simp
theorem Zh2 {s n : Nat} (h : ∀ j, s.testBit j = true -> j < n) : s < pw n := by
 apply Nat.lt_of_not_le;intro hle;obtain ⟨j, h1, h2⟩ := Nat.exists_ge_and_testBit_of_ge_two_pow hle;have := h j h2;omega
theorem Yc {s n j : Nat} (h : s < pw n) (hj : s.testBit j = true) : j < n := by
 rcases Nat.lt_or_ge j n with h1 | h1
 ·exact h1
 ·have : s < 2 ^ j := Nat.lt_of_lt_of_le h (Z3 h1);rw [Nat.testBit_lt_two_pow this] at hj; cases hj
theorem YU {l : List Int} {n : Nat} (h : ∀ i ∈ l, i.toNat < n) : XH l < pw n := Zh2 fun j hj => by
 obtain ⟨i, h1, rfl⟩ := XA.1 hj;exact h i h1
theorem Zav {s : Nat} (h : s < pw 63) : XH (Z6 (s : Int) 63) = s := Nat.eq_of_testBit_eq fun j => by
 rw [Bool.eq_iff_iff, XA]
 constructor
 ·rintro ⟨i, h1, rfl⟩;obtain ⟨k, rfl, _, h3⟩ := Xl.1 h1;exact h3
 ·intro h1;exact ⟨(j : Int), Xl.2 ⟨j, rfl, Yc h h1, h1⟩, rfl⟩
theorem Yw (s : Int) : ∀ k, (Z6 s k).Pairwise (· < ·) := fun k => by
 rw [Z6, List.pairwise_map]
 exact (List.pairwise_lt_range (n := k)).filter _ |>.imp fun h => by omega
theorem Zow {a b : List Int} (ha : a.Pairwise (· < ·)) (hb : b.Pairwise (· < ·)) (h : ∀ x, x ∈ a ↔ x ∈ b) : a = b := by
 have na : a.Nodup := ha.imp fun h => by omega
 have nb : b.Nodup := hb.imp fun h => by omega
 exact ((List.perm_ext_iff_of_nodup na nb).2 h).eq_of_pairwise (fun x y _ _ h1 h2 => by omega) ha hb
def Xe (l : List Rte) : Nat := l.foldl (fun s r => s ||| XJ r.visits) 0
theorem Vy (l : List Vis) : XJ l = XH (l.map (·.order)) := by rw [XJ, XH, List.foldl_map]
theorem ZaE {l : List Rte} {k : Nat} (h : k < l.length) : Xe (l.take (k + 1)) = Xe (l.take k) ||| XJ (nth l k).visits := by
 rw [List.take_succ_eq_append_getElem h, Xe, List.foldl_append, Ze h]; rfl
theorem Wr {l : List Rte} {j : Nat} : (Xe l).testBit j = true ↔ ∃ r ∈ l, ∃ v ∈ r.visits, v.order.toNat = j := by
 have : ∀ (l : List Rte) (s : Nat), (l.foldl (fun s r => s ||| XJ r.visits) s).testBit j = true ↔ s.testBit j = true \/ ∃ r ∈ l, ∃ v ∈ r.visits, v.order.toNat = j := by
  intro l
  induction l with
  | nil => simp
  | cons a l ih =>
   intro s;rw [List.foldl_cons, ih, Nat.testBit_or, Bool.or_eq_true, Vy, XA, or_assoc];simp only [List.mem_map, List.mem_cons, exists_eq_or_imp];refine or_congr Iff.rfl (or_congr ?_ Iff.rfl)
   constructor
   ·rintro ⟨i, ⟨v, h1, rfl⟩, h2⟩; exact ⟨v, h1, h2⟩
   ·rintro ⟨v, h1, h2⟩; exact ⟨_, ⟨v, h1, rfl⟩, h2⟩
 rw [Xe, this]; simp
def Zok (n : Nat) (v : Vis) : Bool := decide (0 <= v.order) && decide (v.order < (n : Int))
def Zf9 (n : Nat) (r : Rte) : Bool := r.visits.all (Zok n)
def kno (n : Nat) (l : List Rte) : Bool := l.all (Zf9 n)
theorem VX {n : Nat} {l : List Rte} : kno n l = true ↔ ∀ r ∈ l, ∀ v ∈ r.visits, 0 <= v.order /\ v.order < (n : Int) := by
 simp [kno, Zf9, Zok, List.all_eq_true]
theorem YD {n : Nat} {l : List Rte} (h : kno n l = true) : Xe l < pw n := Zh2 fun j hj => by
 obtain ⟨r, h1, v, h2, rfl⟩ := Wr.1 hj;have := VX.1 h r h1 v h2;omega
theorem ZeM {n : Nat} {r : Rte} (h : Zf9 n r = true) : XJ r.visits < pw n := by
 rw [Vy];refine YU fun i hi => ?_;obtain ⟨v, hv, rfl⟩ := List.mem_map.1 hi;have := List.all_eq_true.1 h v hv;simp only [Zok, Bool.and_eq_true, decide_eq_true_eq] at this;omega
theorem ZcG {n : Nat} {r : Rte} (hn : n <= 60) (h : Zf9 n r = true) : r.visits.all inS = true := by
 rw [List.all_eq_true];intro v hv;have := List.all_eq_true.1 h v hv;simp only [Zok, Bool.and_eq_true, decide_eq_true_eq] at this;simp only [inS, decide_eq_true_eq];omega
theorem ZhP {n : Nat} {r : Rte} (h : r.visits.all inS = true) (h2 : XJ r.visits < pw n) : Zf9 n r = true := by
 rw [Zf9, List.all_eq_true];intro v hv;have h3 := List.all_eq_true.1 h v hv;simp only [inS, decide_eq_true_eq] at h3;have h4 : v.order.toNat < n := Yc h2 (by rw [Vy, XA]; exact ⟨v.order, List.mem_map.2 ⟨v, hv, rfl⟩, rfl⟩);simp only [Zok, Bool.and_eq_true, decide_eq_true_eq];omega
noncomputable def lvB (n : Nat) (be : List (Int × Int)) (all set : Nat) (i : Nat) : Bool := all.testBit i && decide (ZK n be (i : Int) &&& set &&& all ≠ 0)
noncomputable def lvS (n : Nat) (be : List (Int × Int)) (all set : Nat) : Nat := XW (lvB n be all set) n
theorem ZjO (n be all set) : lvS n be all set < pw n := Yv _ _
theorem ZgL (n be all set j) : (lvS n be all set).testBit j = (decide (j < n) && lvB n be all set j) := YJ _ _ _
theorem Zkw {n : Nat} {be : List (Int × Int)} {all set : Nat} (hn : n <= 60) (ha : all < pw n) : XH ((Z6 (all : Int) 63).filter fun i => decide (ZK n be i &&& set &&& all ≠ 0)) = lvS n be all set := Nat.eq_of_testBit_eq fun j => by
 rw [Bool.eq_iff_iff, XA, ZgL, lvB];simp only [List.mem_filter, Xl, Bool.and_eq_true]
 constructor
 ·rintro ⟨i, ⟨⟨k, rfl, _, h1⟩, h2⟩, rfl⟩;exact ⟨by have := Yc ha h1; simpa using this, h1, h2⟩
 ·rintro ⟨h0, h1, h2⟩;exact ⟨(j : Int), ⟨⟨j, rfl, by simp at h0; omega, h1⟩, h2⟩, rfl⟩
def ZiS (g : Nat) (r : Rte) : Rte := { r with visits_c := false, visits := r.visits.filter fun v => !g.testBit v.order.toNat }
def Xo (g : Nat) (l : List Rte) : List Rte := (l.map (ZiS g)).filter fun r => decide (0 < r.visits.length)
theorem Zdh {g : Nat} {l : List Rte} {k : Nat} (h : k < l.length) : Xo g (l.take (k + 1)) = Xo g (l.take k) ++ (if 0 < (ZiS g (nth l k)).visits.length then [ZiS g (nth l k)] else []) := by
 rw [List.take_succ_eq_append_getElem h, Xo, List.map_append, List.filter_append, Ze h]
 congr 1
 by_cases c : 0 < (ZiS g l[k]).visits.length <;> simp [c]
theorem Vu {g : Nat} {l : List Rte} : (Xo g l).length <= l.length := by
 rw [Xo];exact Nat.le_trans (List.length_filter_le _ _) (by simp)
def Zog (g : Nat) (us : List Int) : List Int := Z6 ((XH us ||| g : Nat) : Int) 63
def Zd8 : Pln := ⟨true, [], true, []⟩
def Za9 (n : Nat) (set : Int) : Bool := decide (0 <= set) && decide (set < (pw n : Nat))
noncomputable def Z4 (x : Inst) (p : Pln) (set : Int) : Nat := lvS x.orders.length x.before (Xe p.routes) set.toNat
def rmP (p : Pln) (g : Nat) : Pln := ⟨false, Xo g p.routes, false, Zog g p.unserved⟩
def Zxa (n : Nat) (us : List Int) : Bool := us.all fun u => decide (0 <= u) && decide (u < (n : Int))
def Zbn (x : Inst) (p : Pln) : Bool := kno x.orders.length p.routes && Zxa x.orders.length p.unserved
noncomputable def rmF (x : Inst) (p : Pln) (set : Int) : Pln × Nat × Int :=
 if Zbn x p && Za9 x.orders.length set then (rmP p (Z4 x p set), Z4 x p set, 0) else (Zd8, 0, 2)
def leK (q : Int -> Bool) (v : Int -> Int) (a b : Int) : Bool := if q a = q b then decide (v a < v b \/ (v a = v b /\ a <= b)) else q b
theorem Kr {q v} {a b c : Int} (h1 : leK q v a b = true) (h2 : leK q v b c = true) : leK q v a c = true := by
 unfold leK at *
 cases ha : q a <;> cases hb : q b <;> cases hc : q c <;> simp [ha, hb, hc] at h1 h2 ⊢ <;> omega
theorem Ze6 {q v} (a b : Int) : (leK q v a b || leK q v b a) = true := by
 unfold leK
 cases ha : q a <;> cases hb : q b <;> simp <;> omega
theorem ZhA {q v} {a b : Int} (h1 : leK q v a b = true) (h2 : leK q v b a = true) : a = b := by
 unfold leK at *
 cases ha : q a <;> cases hb : q b <;> simp [ha, hb] at h1 h2 <;> omega
def JF (q : Int -> Bool) (v : Int -> Int) (l : List Int) : List Int := l.mergeSort (leK q v)
theorem Wj (q v l) : (JF q v l).Perm l := List.mergeSort_perm l _
theorem Zb5 (q v l) : (JF q v l).Pairwise fun a b => leK q v a b = true := List.pairwise_mergeSort (le := leK q v) (fun _ _ _ h1 h2 => Kr h1 h2) (fun a b => Ze6 a b) l
theorem ZaY {q v} {l m : List Int} (hp : m.Perm l) (hs : m.Pairwise fun a b => leK q v a b = true) : m = JF q v l :=
 (hp.trans (Wj q v l).symm).eq_of_pairwise (fun _ _ _ _ h1 h2 => ZhA h1 h2) hs (Zb5 q v l)
theorem Jz {q v l} : (JF q v l).length = l.length := (Wj q v l).length_eq
theorem X9 {q v l i} : i ∈ JF q v l ↔ i ∈ l := (Wj q v l).mem_iff
theorem ZdA {q v} {l : List Int} (h : l.Nodup) : (JF q v l).Nodup := (Wj q v l).nodup_iff.2 h
def JQ (q : Int -> Bool) (v : Int -> Int) (l : List Int) (n : Nat) : Nat := XH ((JF q v l).take n)
theorem Wo {l : List Int} (h : l.Pairwise (· < ·)) : l.Nodup := h.imp fun h => by omega
theorem Zhc {l : List Int} (h : ∀ i ∈ l, 0 <= i) {i : Int} (h0 : 0 <= i) : (XH l).testBit i.toNat = true ↔ i ∈ l := by
 rw [XA]
 constructor
 ·rintro ⟨j, h1, h2⟩;have := h j h1
  have : j = i := by omega
  rwa [<- this]
 ·intro h1; exact ⟨i, h1, rfl⟩
theorem Za3 (a b : List Int) : XH (a ++ b) = XH a ||| XH b := Nat.eq_of_testBit_eq fun j => by
 rw [Nat.testBit_or, UH, UH, UH, List.any_append]
theorem Zdu {q v} {l : List Int} (ha : l.Pairwise (· < ·)) (h0 : ∀ i ∈ l, q i = true -> v i = 0) : JF q v l = JF (fun _ => false) v (l.filter fun i => !q i) ++ l.filter q := by
 symm
 refine ZaY ?_ ?_
 ·exact ((Wj _ _ _).append_right _).trans ((List.perm_append_comm).trans (List.filter_append_perm q l))
 ·rw [List.pairwise_append];refine ⟨(Zb5 (fun _ => false) v (l.filter fun i => !q i)).imp_of_mem fun {a b} h1 h2 h => ?_, (ha.filter q).imp_of_mem fun {a b} h1 h2 h => ?_, fun a h1 b h2 => ?_⟩
  ·have e1 := (List.mem_filter.1 (X9.1 h1)).2;have e2 := (List.mem_filter.1 (X9.1 h2)).2;simp at e1 e2;unfold leK at h ⊢;rw [if_pos rfl] at h;rw [e1, e2, if_pos rfl];exact h
  ·have e1 := List.mem_filter.1 h1;have e2 := List.mem_filter.1 h2;have v1 := h0 _ e1.1 e1.2;have v2 := h0 _ e2.1 e2.2;unfold leK;rw [e1.2, e2.2, if_pos rfl, v1, v2];simp; omega
  ·have e1 := (List.mem_filter.1 (X9.1 h1)).2;have e2 := (List.mem_filter.1 h2).2;simp at e1;unfold leK;rw [e1, e2];simp
theorem Zdq {q v} {l : List Int} (ha : l.Pairwise (· < ·)) (h0 : ∀ i ∈ l, q i = true -> v i = 0) (n : Nat) : JQ q v l n = JQ (fun _ => false) v (l.filter fun i => !q i) n ||| JQ (fun _ => false) (fun _ => 0) (l.filter q) (n - (l.filter fun i => !q i).length) := by
 have e : JF (fun _ => false) (fun _ => 0) (l.filter q) = l.filter q := by
  symm
  refine ZaY (.refl _) ((ha.filter q).imp fun {a b} h => ?_);simp [leK]; omega
 unfold JQ;rw [Zdu ha h0, List.take_append, Za3, Jz, e]
end Go.Proofs.YtcdoglogglbemaaGreatDoor.K
set_option linter.unusedVariables false
set_option linter.unusedSimpArgs false
namespace Go.Proofs.YtcdoglogglbemaaGreatDoor.K
section
variable {L : Type} (fin : L -> Int) (beats : L -> L -> Bool) (nxt : Nat -> L -> Bool -> Option L) (choices : Nat -> List Bool)
def fmL : Option L -> List L -> Option L
 | b, [] => b
 | none, x :: l => fmL (some x) l
 | some m, x :: l => if fin x < fin m then fmL (some x) l else fmL (some m) l
theorem VT : ∀ (b : Option L) (l r : List L), fmL fin b (l ++ r) = fmL fin (fmL fin b l) r
 | b, [], r => by cases b <;> simp [fmL]
 | none, x :: l, r => by rw [List.cons_append, fmL, fmL, VT]
 | some m, x :: l, r => by
  rw [List.cons_append, fmL, fmL]
  split
  ·rw [VT]
  ·rw [VT]
theorem Vc : ∀ (l : List L) (m : L), ∃ z, fmL fin (some m) l = some z /\ fin z <= fin m /\ ∀ y ∈ l, fin z <= fin y
 | [], m => ⟨m, rfl, by omega, by simp⟩
 | x :: l, m => by
  rw [fmL]
  split
  ·rename_i h;obtain ⟨z, e, h1, h2⟩ := Vc l x;refine ⟨z, e, by omega, fun y hy => ?_⟩;rcases List.mem_cons.1 hy with rfl | hy
   ·exact h1
   ·exact h2 y hy
  ·rename_i h;obtain ⟨z, e, h1, h2⟩ := Vc l m;refine ⟨z, e, h1, fun y hy => ?_⟩;rcases List.mem_cons.1 hy with rfl | hy
   ·omega
   ·exact h2 y hy
theorem Zcf : ∀ (l : List L) (m : L), (∀ y ∈ l, fin m <= fin y) -> fmL fin (some m) l = some m
 | [], m, _ => rfl
 | x :: l, m, h => by
  have := h x List.mem_cons_self;rw [fmL, if_neg (by omega)];exact Zcf l m fun y hy => h y (List.mem_cons_of_mem _ hy)
theorem ZeX (A B : List L) (h : ∀ y ∈ B, ∃ z ∈ A, fin z <= fin y) : fmL fin none (A ++ B) = fmL fin none A := by
 rw [VT]
 cases A with
 | nil => cases B with
  | nil => rfl
  | cons y B => obtain ⟨z, hz, _⟩ := h y List.mem_cons_self; simp at hz
 | cons a A =>
  rw [fmL];obtain ⟨z, e, h1, h2⟩ := Vc fin A a;rw [e];refine Zcf fin B z fun y hy => ?_;obtain ⟨q, hq, hle⟩ := h y hy;rcases List.mem_cons.1 hq with rfl | hq
  ·omega
  ·have := h2 q hq; omega
def Z9 : List L -> List L -> List L
 | out, [] => out
 | out, x :: l => if out.any (fun m => beats m x) = true then Z9 out l else Z9 (out ++ [x]) l
theorem Qk {R : L -> List L} : ∀ (c out : List L), (∀ x ∈ out ++ c, ∀ m ∈ out ++ c, beats m x = true -> ∀ y ∈ R x, ∃ z ∈ R m, fin z <= fin y) -> fmL fin none ((Z9 beats out c).flatMap R) = fmL fin none ((out ++ c).flatMap R)
 | [], out, _ => by simp [Z9]
 | x :: c, out, h => by
  rw [Z9]
  split
  ·rename_i hb;obtain ⟨m, hm, hb⟩ := List.any_eq_true.1 hb
   have hb : beats m x = true := by simpa using hb
   rw [Qk c out (fun a ha b hb => h a (by simp only [List.mem_append, List.mem_cons] at ha ⊢; rcases ha with h | h <;> simp [h]) b (by simp only [List.mem_append, List.mem_cons] at hb ⊢; rcases hb with h | h <;> simp [h]))];rw [List.flatMap_append, List.flatMap_append, List.flatMap_cons, <- List.append_assoc, VT, VT (l := out.flatMap R ++ R x)];rw [ZeX fin (out.flatMap R) (R x)];intro y hy;obtain ⟨z, hz, hle⟩ := h x (by simp) m (by simp [hm]) hb y hy;exact ⟨z, List.mem_flatMap.2 ⟨m, hm, hz⟩, hle⟩
  ·rw [Qk c (out ++ [x]) (by simpa using h)];simp
theorem Vi : ∀ (c out : List L), ∀ x ∈ Z9 beats out c, x ∈ out ++ c
 | [], out, x, h => by simpa [Z9] using h
 | a :: c, out, x, h => by
  rw [Z9] at h
  split at h
  ·have := Vi c out x h;simp only [List.mem_append, List.mem_cons] at this ⊢;rcases this with h | h <;> simp [h]
  ·have := Vi c (out ++ [a]) x h;simpa using this
def Zhd : Nat -> Nat -> List (List Bool)
 | 0, _ => [[]]
 | j + 1, k => (choices k).flatMap fun b => (Zhd j (k + 1)).map (b :: ·)
def Us : Nat -> L -> List Bool -> Option L
 | _, x, [] => some x
 | k, x, b :: bs => match nxt k x b with
  | some y => Us (k + 1) y bs
  | none => none
def Yq (j k : Nat) (x : L) : List L := (Zhd choices j k).filterMap (Us nxt k x)
def YM (k : Nat) (l : List L) : List L := l.flatMap fun x => (choices k).filterMap (nxt k x)
def Ux : Nat -> Nat -> List L -> List L
 | 0, _, l => l
 | j + 1, k, l => Ux j (k + 1) (Z9 beats [] (YM nxt choices k l))
theorem Q8 (k : Nat) (x : L) : Yq nxt choices 0 k x = [x] := rfl
theorem QO (j k : Nat) (x : L) : Yq nxt choices (j + 1) k x = ((choices k).filterMap (nxt k x)).flatMap (Yq nxt choices j (k + 1)) := by
 unfold Yq;rw [Zhd]
 induction choices k with
 | nil => rfl
 | cons b bs ih =>
  rw [List.flatMap_cons, List.filterMap_append, ih, List.filterMap_cons]
  cases h : nxt k x b with
  | none =>
   rw [List.filterMap_map]
   have : (Us nxt k x ∘ fun l => b :: l) = fun _ => none := by funext l; simp [Us, h]
   rw [this]; simp
  | some y =>
   rw [List.filterMap_map]
   have : (Us nxt k x ∘ fun l => b :: l) = Us nxt (k + 1) y := by funext l; simp [Us, h]
   rw [this]; rfl
theorem KJ {n : Nat} {Inv : Nat -> L -> Prop} (hI : ∀ k x b y, Inv k x -> nxt k x b = some y -> Inv (k + 1) y) (hd : ∀ k m x b y, Inv k m -> Inv k x -> beats m x = true -> nxt k x b = some y -> ∃ z, nxt k m b = some z /\ beats z y = true)
  (he : ∀ m x, Inv n m -> Inv n x -> beats m x = true -> fin m <= fin x) : ∀ (j k : Nat) (m x : L), k + j = n -> Inv k m -> Inv k x -> beats m x = true -> ∀ y ∈ Yq nxt choices j k x, ∃ z ∈ Yq nxt choices j k m, fin z <= fin y
 | 0, k, m, x, hk, h1, h2, hb, y, hy => by
  rw [Q8] at hy ⊢;simp at hy; subst hy
  have hk : k = n := by omega
  subst hk;exact ⟨m, by simp, he m y h1 h2 hb⟩
 | j + 1, k, m, x, hk, h1, h2, hb, y, hy => by
  rw [QO] at hy ⊢;obtain ⟨q, hq, hy⟩ := List.mem_flatMap.1 hy;obtain ⟨b, hbm, hn⟩ := List.mem_filterMap.1 hq;obtain ⟨z, hz, hzb⟩ := hd k m x b q h1 h2 hb hn;obtain ⟨u, hu, hle⟩ := KJ hI hd he j (k + 1) z q (by omega) (hI k m b z h1 hz) (hI k x b q h2 hn) hzb y hy;exact ⟨u, List.mem_flatMap.2 ⟨z, List.mem_filterMap.2 ⟨b, hbm, hz⟩, hu⟩, hle⟩
theorem Zfr {n : Nat} {Inv : Nat -> L -> Prop} (hI : ∀ k x b y, Inv k x -> nxt k x b = some y -> Inv (k + 1) y) (hd : ∀ k m x b y, Inv k m -> Inv k x -> beats m x = true -> nxt k x b = some y -> ∃ z, nxt k m b = some z /\ beats z y = true)
  (he : ∀ m x, Inv n m -> Inv n x -> beats m x = true -> fin m <= fin x) : ∀ (j k : Nat) (l : List L), k + j = n -> (∀ x ∈ l, Inv k x) -> fmL fin none (Ux beats nxt choices j k l) = fmL fin none (l.flatMap (Yq nxt choices j k))
 | 0, k, l, hk, hl => by
  have : l.flatMap (Yq nxt choices 0 k) = l := by
   have : Yq nxt choices 0 k = fun x => [x] := by funext x; exact Q8 nxt choices k x
   rw [this]; simp
  rw [this]; rfl
 | j + 1, k, l, hk, hl => by
  have hc : ∀ x ∈ YM nxt choices k l, Inv (k + 1) x := fun x hx => by
   obtain ⟨q, hq, hx⟩ := List.mem_flatMap.1 hx;obtain ⟨b, _, hn⟩ := List.mem_filterMap.1 hx;exact hI k q b x (hl q hq) hn
  have e : l.flatMap (Yq nxt choices (j + 1) k) = (YM nxt choices k l).flatMap (Yq nxt choices j (k + 1)) := by
   rw [YM, List.flatMap_assoc]
   congr 1
   funext x
   exact QO nxt choices j k x
  rw [Ux, Zfr hI hd he j (k + 1) _ (by omega) (fun x hx => hc x (by simpa using Vi beats _ _ x hx)), Qk fin beats _ _ (fun x hx m hm hb y hy => ?_), e]
  ·simp
  ·exact KJ fin beats nxt choices hI hd he j (k + 1) m x (by omega) (hc m (by simpa using hm)) (hc x (by simpa using hx)) hb y hy
def X8 : List Bool -> List (List Bool)
 | [] => [[]]
 | b :: bs => if b then (X8 bs).map (true :: ·) else (X8 bs).map (false :: ·) ++ (X8 (List.replicate bs.length false)).map (true :: ·)
termination_by l => l.length
decreasing_by all_goals simp
def Xw : List Bool -> Option (List Bool)
 | [] => none
 | b :: bs => match Xw bs with
  | some l => some (b :: l)
  | none => if b then none else some (true :: List.replicate bs.length false)
theorem fromB_next : ∀ l : List Bool, X8 l = l :: (match Xw l with | some r => X8 r | none => [])
 | [] => by simp [X8, Xw]
 | b :: bs => by
  have ih := fromB_next bs
  have e0 : ∀ l : List Bool, X8 (true :: l) = (X8 l).map (true :: ·) := fun l => by rw [X8]; simp
  have e1 : ∀ l : List Bool, X8 (false :: l) = (X8 l).map (false :: ·) ++ (X8 (List.replicate l.length false)).map (true :: ·) := fun l => by rw [X8]; simp
  cases b with
  | true =>
   rw [e0, ih, Xw]
   cases h : Xw bs with
   | none => simp
   | some r => simp [e0]
  | false =>
   rw [e1, ih, Xw]
   cases h : Xw bs with
   | none => simp [e0]
   | some r =>
    have hl : r.length = bs.length := nlen bs r h;simp [e1, hl]
where nlen : ∀ (l r : List Bool), Xw l = some r -> r.length = l.length
 | [], r, h => by simp [Xw] at h
 | b :: bs, r, h => by
  rw [Xw] at h
  cases h2 : Xw bs with
  | none =>
   rw [h2] at h
   cases b <;> simp at h
   subst h; simp
  | some q =>
   rw [h2] at h;simp at h;subst h;simp [nlen bs q h2]
theorem ZcP {n : Nat} : ∀ (j k : Nat), (∀ q, k <= q -> choices q = [false, true]) -> Zhd choices j k = X8 (List.replicate j false)
 | 0, k, _ => by simp [Zhd, X8]
 | j + 1, k, h => by
  rw [Zhd, h k (Nat.le_refl _), ZcP (n := n) j (k + 1) (fun q hq => h q (by omega)), List.replicate_succ, X8];simp
end
end Go.Proofs.YtcdoglogglbemaaGreatDoor.K
set_option linter.unusedVariables false
set_option linter.unusedSimpArgs false
namespace Go.Proofs.YtcdoglogglbemaaGreatDoor.K
open Go Go.AM Go.Proofs
def ext (nx : List Vis -> List Vis) : Nat -> List Vis -> List (List Vis) -> List (List Vis)
 | 0, l, outs => if 8192 < outs.length then outs else outs ++ [l]
 | f + 1, l, outs => if 8192 < outs.length then outs else (nx l).foldl (fun acc v => ext nx f (l ++ [v]) acc) outs
set_option maxRecDepth 8000
set_option maxHeartbeats 8000000
def ZjP (x : Inst) (l : List Vis) : Int :=
 if l.any (Vd x) = true then 2
 else if l.length = 0 then 2
 else if (l.any fun v => (nth x.orders v.order.toNat).off) = true then 9
 else if ((List.range l.length).any fun i => decide (vIx l (nth l i) ≠ (i : Int))) = true then 6
 else if l.all (pairB x.orders l) = false then 19
 else if apB x (XJ l) = true then 20
 else if x.before.all (Vk (XJ l) l) = false then 21
 else 0
theorem Zdy (x : Inst) (r : Rte) (ho : x.orders.length <= 60) (hl : r.visits.length <= 1048576) (hap : x.apart.length <= 1048576) (hbe : x.before.length <= 1048576) (hp : Plc x) :
  PC 173 [.p (ZG x), .p (YZ r)] (.int .i64 (ZjP x r.visits)) := by
 refine Za Tryz.func173 rfl Zoy ?_;simp (disch := omega) only [Tryz.f173, go_sem, seval];refine Zf [2, 3, 5] (fun k : Nat => [(6, .p (.int .i64 k))]) (fun _ => [Zb x, Zw r]) (fun k => k <= r.visits.length /\ ∀ j, j < k -> Vd x (nth r.visits j) = false) (fun k => r.visits.length - k) 0 (by simp) (Weak.mk ?_) ?_
 ·simp (disch := omega) only [Zb, Zw, go_sem, seval]
 ·rintro k ⟨hk, hno⟩;simp (disch := omega) only [Zb, Zw, go_sem, seval];refine cD ?_ ?_ <;> intro h <;> simp (disch := omega) only [Sh.out h, go_sem, seval]
  ·have hk2 : k < r.visits.length := by omega
   refine Zi mixed (by kernel_rfl) (by kernel_rfl) ?_;simp (disch := omega) only [go_sem, seval];refine gF ?_ ?_ <;> intro h2 <;> simp (disch := omega) only [Sh.out h2, go_sem, seval]
   ·have : Vd x (nth r.visits k) = true := by simp [Vd]; omega
    rw [ZjP, if_pos (V7 hk2 this)]
   ·refine cD ?_ ?_ <;> intro h3 <;> simp (disch := omega) only [Sh.out h3, go_sem, seval]
    ·have : Vd x (nth r.visits k) = true := by simp [Vd]; omega
     rw [ZjP, if_pos (V7 hk2 this)]
    ·exact ⟨k + 1, ⟨by omega, Zh.2 ⟨hno, by simp [Vd]; omega⟩⟩, by omega, Weak.mk (by simp (disch := omega) only [Zb, Zw, go_sem, seval])⟩
  ·have hkl : k = r.visits.length := by omega
   subst hkl
   have hr1 : ZjP x r.visits = if r.visits.length = 0 then 2 else if (r.visits.any fun v => (nth x.orders v.order.toNat).off) = true then 9 else if ((List.range r.visits.length).any fun i => decide (vIx r.visits (nth r.visits i) ≠ (i : Int))) = true then 6 else if r.visits.all (pairB x.orders r.visits) = false then 19 else if apB x (XJ r.visits) = true then 20 else if x.before.all (Vk (XJ r.visits) r.visits) = false then 21 else 0 := by
    rw [ZjP, if_neg (by rw [K2 hno]; simp)]
   have hin : ∀ j, j < r.visits.length -> 0 <= (nth r.visits j).order /\ (nth r.visits j).order < x.orders.length := fun j hj => by
    have := hno j hj;simpa [Vd] using this
   have hmem : ∀ v ∈ r.visits, 0 <= v.order /\ v.order < x.orders.length := fun v hv => by
    obtain ⟨j, hj, rfl⟩ := List.mem_iff_getElem.1 hv;rw [<- Ze hj]; exact hin j hj
   have hord : Qy r.visits = (((XJ r.visits : Nat) : Int), 0) := by
    rw [Qy, if_pos];rw [List.all_eq_true];intro v hv;have := hmem v hv;simp [inS]; omega
   have hlt : XJ r.visits < 9223372036854775808 := by
    have := Qc r.visits.length (l := r.visits) (Nat.le_refl _) (fun v hv => by
     rw [List.take_length] at hv;have := hmem v hv
     simp [inS]; omega)
    rwa [List.take_length] at this
   have hoc := ZfP r hl;rw [hord] at hoc;refine US hoc ?_;simp (disch := omega) only [Zb, Zw, go_sem, seval];refine cD ?_ ?_ <;> intro h3 <;> simp (disch := omega) only [Sh.out h3, go_sem, seval]
   ·rw [hr1, if_pos (by omega)]
   ·rw [hr1, if_neg (by omega)];clear hno hr1 h3 h hk;refine Zf [2, 5, 7] (fun k : Nat => [(9, .p (.int .i64 k))]) (fun _ => [Zb x, Zw r]) (fun k => k <= r.visits.length /\ ∀ j, j < k -> (nth x.orders (nth r.visits j).order.toNat).off = false) (fun k => r.visits.length - k) 0 (by simp) (Weak.mk ?_) ?_
    ·simp (disch := omega) only [Zb, Zw, go_sem, seval]
    ·rintro k ⟨hk, hno⟩;simp (disch := omega) only [Zb, Zw, go_sem, seval];refine cD ?_ ?_ <;> intro h <;> simp (disch := omega) only [Sh.out h, go_sem, seval]
     ·have hk2 : k < r.visits.length := by omega
      obtain ⟨i1, i2⟩ := hin k hk2
      have i3 : (nth r.visits k).order.toNat < x.orders.length := by omega
      refine Zi mixed (by kernel_rfl) (by kernel_rfl) ?_;simp (disch := omega) only [Xi, go_sem, seval];refine cD ?_ ?_ <;> intro h4 <;> simp (disch := omega) only [Sh.out h4, go_sem, seval]
      ·rw [if_pos (V7 hk2 h4)]
      ·exact ⟨k + 1, ⟨by omega, Zh.2 ⟨hno, h4⟩⟩, by omega, Weak.mk (by simp (disch := omega) only [Zb, Zw, go_sem, seval])⟩
     ·have hkl : k = r.visits.length := by omega
      subst hkl;have e9 : (r.visits.any fun v => (nth x.orders v.order.toNat).off) = false := K2 hno;rw [e9, if_neg (by simp)];clear hno h hk;refine Zf [2, 5, 7] (fun k : Nat => [(10, .p (.int .i64 k))]) (fun _ => [Zb x, Zw r]) (fun k => k <= r.visits.length /\ ∀ j, j < k -> vIx r.visits (nth r.visits j) = (j : Int)) (fun k => r.visits.length - k) 0 (by simp) (Weak.mk ?_) ?_
      ·simp (disch := omega) only [Zb, Zw, go_sem, seval]
      ·rintro k ⟨hk, hno⟩;simp (disch := omega) only [Zb, Zw, go_sem, seval];refine cD ?_ ?_ <;> intro h <;> simp (disch := omega) only [Sh.out h, go_sem, seval]
       ·have hk2 : k < r.visits.length := by omega
        refine (Vr r.visits r.visits_c (nth r.visits k) hl).use ?_;simp (disch := omega) only [go_sem, seval];refine cD ?_ ?_ <;> intro h4 <;> simp (disch := omega) only [Sh.out h4, go_sem, seval]
        ·have : ((List.range r.visits.length).any fun i => decide (vIx r.visits (nth r.visits i) ≠ (i : Int))) = true := by
          rw [List.any_eq_true]; exact ⟨k, by simpa using hk2, by simpa using h4⟩
         rw [if_pos this]
        ·exact ⟨k + 1, ⟨by omega, Zh.2 ⟨hno, by omega⟩⟩, by omega, Weak.mk (by simp (disch := omega) only [Zb, Zw, go_sem, seval])⟩
       ·have hkl : k = r.visits.length := by omega
        subst hkl
        have : ((List.range r.visits.length).any fun i => decide (vIx r.visits (nth r.visits i) ≠ (i : Int))) = false := by
         rw [List.any_eq_false]; intro i hi; simpa using hno i (by simpa using hi)
        rw [this, if_neg (by simp)];refine (ZeG x r.visits r.visits_c hl (by omega) hp hmem).use ?_;simp (disch := omega) only [go_sem, seval];refine cD ?_ ?_ <;> intro h4 <;> simp (disch := omega) only [Sh.out h4, go_sem, seval]
        ·rw [if_pos (by simpa using h4)]
        ·rw [if_neg (by simpa using h4)];refine (Zit x (XJ r.visits) hlt hap).use ?_;simp (disch := omega) only [go_sem, seval];refine cD ?_ ?_ <;> intro h5 <;> simp (disch := omega) only [Sh.out h5, go_sem, seval]
         ·rw [if_pos (by simpa using h5)]
         ·rw [if_neg (by simpa using h5)];refine (ZfO x (XJ r.visits) r.visits r.visits_c hlt hl hbe).use ?_;simp (disch := omega) only [go_sem, seval];refine cD ?_ ?_ <;> intro h6 <;> simp (disch := omega) only [Sh.out h6, go_sem, seval]
          ·rw [if_pos (by simpa using h6)]
          ·rw [if_neg (by simpa using h6)]
structure IFacts (x : Inst) : Prop where
 len : x.orders.length <= 10
 plc : Plc x
 vne : Vne x
 val : Val x.orders.length x.before
 ne : ∀ p ∈ x.before, p.1 ≠ p.2
 aval : Val x.orders.length x.apart
theorem ZjG {n : Int} {word : List UInt8} {sm : Int × Int -> Int × Int -> Bool} {l : List (Int × Int)} (h : Kc n word sm l l.length = []) : ∀ p ∈ l, okP n p = true := by
 intro p hp;obtain ⟨i, hi, rfl⟩ := List.mem_iff_getElem.1 hp;have h2 := (List.append_eq_nil_iff.1 h).2;rw [List.flatMap_eq_nil_iff] at h2;have h3 := h2 i (by simpa using hi);rw [flt, Ze hi] at h3
 cases h4 : okP n l[i] with
 | true => rfl
 | false => rw [h4] at h3; simp at h3
theorem VC {x : Inst} (h : InstOk x) : IFacts x := by
 have ho := h.orders;obtain ⟨h1, h2⟩ := List.append_eq_nil_iff.1 h.rules;have ha := ZjG h1;have hb := ZjG h2
 have hpl : Plc x := fun o hm => by
  obtain ⟨i, hi, rfl⟩ := List.mem_iff_getElem.1 hm;have := ho.2 i hi;rw [<- Ze hi];exact ⟨this.pick.1, this.drp.1⟩
 have val : ∀ l : List (Int × Int), (∀ p ∈ l, okP x.orders.length p = true) -> Val x.orders.length l := fun l h p hp => by
  have := h p hp;simp [okP] at this; omega
 refine ⟨ho.1, hpl, fun i hi => ?_, val _ hb, fun p hp => ?_, val _ ha⟩
 ·have h3 := ho.2 i hi;have h4 := hpl _ (Zl hi);have h5 := h3.one;unfold X5
  by_cases h6 : 0 <= (nth x.orders i).pick.place
  ·simp [h6]
  ·have : 0 <= (nth x.orders i).drp.place := by omega
   simp [this]
 ·have := hb p hp;simp [okP] at this; exact this.2
theorem XM {l : List Vis} {o : Int} : hasO l o = true ↔ ∃ v ∈ l, v.order = o := by simp [hasO]
theorem Zcs : ∀ (l : List Vis) (i : Nat), (XJ l).testBit i = true ↔ ∃ v ∈ l, v.order.toNat = i := by
 have key : ∀ (l : List Vis) (s i : Nat), (l.foldl (fun s v => s ||| pw v.order.toNat) s).testBit i = true ↔ s.testBit i = true \/ ∃ v ∈ l, v.order.toNat = i := by
  intro l
  induction l with
  | nil => intro s i; simp
  | cons v l ih =>
   intro s i;rw [List.foldl_cons, ih, Nat.testBit_or, Z5, Bool.or_eq_true, decide_eq_true_eq, or_assoc];refine or_congr Iff.rfl ?_
   constructor
   ·rintro (h | ⟨w, hw, h⟩)
    ·exact ⟨v, by simp, h⟩
    ·exact ⟨w, by simp [hw], h⟩
   ·rintro ⟨w, hw, h⟩;rcases List.mem_cons.1 hw with rfl | hw
    ·exact .inl h
    ·exact .inr ⟨w, hw, h⟩
 intro l i;rw [XJ, key];simp
def Inr (x : Inst) (l : List Vis) : Prop := ∀ v ∈ l, 0 <= v.order /\ v.order < x.orders.length
theorem UC {x : Inst} {l : List Vis} (hi : Inr x l) (hn : x.orders.length <= 60) (o : Int) (h : 0 <= o /\ o <= 62) : U6 (XJ l) o = hasO l o := by
 rw [Bool.eq_iff_iff, ZiC, Zcs, XM]
 constructor
 ·rintro ⟨h1, h2, v, hv, h3⟩;have := hi v hv;exact ⟨v, hv, by omega⟩
 ·rintro ⟨v, hv, rfl⟩;exact ⟨h.1, h.2, v, hv, rfl⟩
theorem QU {l : List Vis} (hd : l.Nodup) {k : Nat} (hk : k < l.length) : vIx l (nth l k) = (k : Int) := by
 refine Zac hk (by simp) fun j hj => ?_
 have : nth l k ≠ nth l j := by
  rw [Ze hk, Ze (by omega)];exact fun e => (List.pairwise_iff_getElem.1 hd) j k (by omega) hk hj e.symm
 simpa using this
theorem ZmG {l : List Vis} {v : Vis} (h : 0 <= vIx l v) : (vIx l v).toNat < l.length /\ nth l (vIx l v).toNat = v := by
 have hl := ZgT (f := fun w => decide (v = w)) (l := l);unfold vIx fIx at h ⊢
 cases hv : l.findIdx? (fun u => decide (v = u)) with
 | none => rw [hv] at h; simp at h
 | some i =>
  rw [List.findIdx?_eq_some_iff_getElem] at hv;obtain ⟨h1, h2, _⟩ := hv;simp at h2;exact ⟨by simpa using h1, by simp [Ze h1, h2]⟩
theorem ZsD {l : List Vis} {k : Nat} (hk : k < l.length) : 0 <= vIx l (nth l k) /\ vIx l (nth l k) <= (k : Int) := by
 have hm : 0 <= vIx l (nth l k) := W3.2 (Zl hk);refine ⟨hm, ?_⟩;unfold vIx fIx at hm ⊢
 cases hv : l.findIdx? (fun u => decide (nth l k = u)) with
 | none => rw [hv] at hm; simp at hm
 | some i =>
  rw [List.findIdx?_eq_some_iff_getElem] at hv;obtain ⟨h1, h2, h3⟩ := hv;simp;rcases Nat.lt_or_ge k i with h4 | h4
  ·have := h3 k h4;rw [<- Ze hk] at this;simp at this
  ·exact h4
theorem UE {l : List Vis} {v : Vis} {i : Nat} (h : v ∈ l.take i) : ∃ j, j < i /\ j < l.length /\ nth l j = v := by
 obtain ⟨j, hj, rfl⟩ := List.mem_iff_getElem.1 h;simp at hj;exact ⟨j, by omega, by omega, by rw [List.getElem_take, Ze (by omega)]⟩
theorem J0 {l : List Vis} {i j : Nat} (h : j < i) (hl : j < l.length) : nth l j ∈ l.take i := by
 rw [Ze hl];exact List.mem_iff_getElem.2 ⟨j, by simp; omega, by simp⟩
theorem Ud {l : List Vis} : Wq l = false ↔ l.Nodup := by
 rw [Wq, List.any_eq_false]
 constructor
 ·intro h;rw [List.nodup_iff_pairwise_ne, List.pairwise_iff_getElem];intro i j hi hj hij e;have := h j (by simpa using hj);simp only [decide_eq_true_eq, W3] at this;refine this ?_;rw [Ze hj, <- e, <- Ze hi];exact J0 hij hi
 ·intro h j hj;simp only [decide_eq_true_eq, W3];intro hm;obtain ⟨i, h1, h2, h3⟩ := UE hm
  have hj2 : j < l.length := by simpa using hj
  have e1 := QU h h2;have e2 := QU h hj2;rw [h3] at e1;omega
theorem ZfQ {l : List Vis} : ((List.range l.length).any fun i => decide (vIx l (nth l i) ≠ (i : Int))) = Wq l := by
 rw [Bool.eq_iff_iff]
 constructor
 ·intro h;rw [List.any_eq_true] at h;obtain ⟨i, hi, h2⟩ := h
  cases ht : Wq l with
  | true => rfl
  | false => have := QU (Ud.1 ht) (by simpa using hi); simp [this] at h2
 ·intro h;rw [Wq, List.any_eq_true] at h;obtain ⟨j, hj, h2⟩ := h;simp only [decide_eq_true_eq, W3] at h2;obtain ⟨i, h3, h4, h5⟩ := UE h2;rw [List.any_eq_true];refine ⟨j, hj, ?_⟩;have := (ZsD h4).2;rw [h5] at this;simp only [ne_eq, decide_not, Bool.not_eq_true', decide_eq_false_iff_not];omega
def oIx (l : List Vis) (b : Int) : Int := fIx (fun v => decide (v.order = b)) l
theorem Za6 {l : List Vis} {b : Int} : 0 <= oIx l b ↔ ∃ v ∈ l, v.order = b := by
 have := Zce (f := fun v => decide (v.order = b)) (l := l);rw [<- XM, hasO, <- this, oIx]; simp
theorem Zbu {l : List Vis} {b : Int} (h : 0 <= oIx l b) : (oIx l b).toNat < l.length /\ (nth l (oIx l b).toNat).order = b /\ ∀ j, j < (oIx l b).toNat -> (nth l j).order ≠ b := by
 unfold oIx fIx at h ⊢
 cases hv : l.findIdx? (fun v => decide (v.order = b)) with
 | none => rw [hv] at h; simp at h
 | some i =>
  rw [List.findIdx?_eq_some_iff_getElem] at hv;obtain ⟨h1, h2, h3⟩ := hv;simp at h2;refine ⟨by simpa using h1, by simpa [Ze h1] using h2, fun j hj => ?_⟩
  have hj2 : j < i := by simpa using hj
  have := h3 j hj2;rw [Ze (by omega)];simpa using this
theorem Zqc {l : List Vis} {b : Int} {k : Nat} (hk : k < l.length) (h : (nth l k).order = b) : 0 <= oIx l b /\ oIx l b <= (k : Int) := by
 have h0 : 0 <= oIx l b := Za6.2 ⟨_, Zl hk, h⟩;refine ⟨h0, ?_⟩;obtain ⟨h1, h2, h3⟩ := Zbu h0;rcases Nat.lt_or_ge k (oIx l b).toNat with h4 | h4
 ·exact absurd h (h3 k h4)
 ·omega
theorem Zbo {l : List Vis} {a b : Int} : beforeB l a b = true ↔ (0 <= oIx l b -> (∃ v ∈ l, v.order = a) /\ ∀ j, j < l.length -> (nth l j).order = a -> (j : Int) < oIx l b) := by
 unfold beforeB;rw [show fIx (fun v => decide (v.order = b)) l = oIx l b from rfl]
 by_cases h : oIx l b < 0
 ·rw [if_pos h];exact ⟨fun _ h2 => by omega, fun _ => rfl⟩
 ·rw [if_neg h, Bool.and_eq_true, XM]
  have h0 : 0 <= oIx l b := by omega
  obtain ⟨h1, h2, h3⟩ := Zbu h0
  have hd : (!hasO (l.drop (oIx l b).toNat) a) = true ↔ ∀ j, j < l.length -> (nth l j).order = a -> (j : Int) < oIx l b := by
   rw [Bool.not_eq_true', <- Bool.not_eq_true, XM]
   constructor
   ·intro hno j hj e;rcases Int.lt_or_le (j : Int) (oIx l b) with h4 | h4
    ·exact h4
    ·refine absurd ⟨nth l j, ?_, e⟩ hno;rw [Ze hj];exact List.mem_iff_getElem.2 ⟨j - (oIx l b).toNat, by simp; omega, by simp; congr 1; omega⟩
   ·rintro XC ⟨v, hv, e⟩;obtain ⟨j, hj, rfl⟩ := List.mem_iff_getElem.1 hv;simp at hj;rw [List.getElem_drop] at e;have := XC ((oIx l b).toNat + j) (by omega) (by rw [Ze (by omega)]; exact e);omega
  rw [hd];exact ⟨fun h _ => h, fun h => h h0⟩
theorem Zc6 {x : Inst} {l : List Vis} (hi : Inr x l) (hn : x.orders.length <= 60) {p : Int × Int} (h1 : 0 <= p.1 /\ p.1 < x.orders.length) (h2 : 0 <= p.2 /\ p.2 < x.orders.length) (hne : p.1 ≠ p.2) : Vk (XJ l) l p = beforeB l p.1 p.2 := by
 rw [Bool.eq_iff_iff, Zbo, Vk, UC hi hn _ (by omega), UC hi hn _ (by omega)];simp only [Bool.or_eq_true, Bool.not_eq_true', Bool.and_eq_true];rw [<- Bool.not_eq_true, XM, XM, <- Za6, <- Za6 (b := p.1)]
 constructor
 ·rintro (h | ⟨h3, h4⟩) h0
  ·exact absurd h0 h
  ·refine ⟨h3, fun j hj e => ?_⟩;rw [List.all_eq_true] at h4;have h5 := h4 j (by simpa using hj);rw [List.all_eq_true] at h5;obtain ⟨g1, g2, g3⟩ := Zbu h0;rcases Int.lt_or_le (j : Int) (oIx l p.2) with h6 | h6
   ·exact h6
   ·have hne2 : j ≠ (oIx l p.2).toNat := fun e2 => hne (by rw [<- e, e2]; exact g2);have := h5 (oIx l p.2).toNat (by simp; omega);simp [Vv, e, g2] at this
 ·intro h
  by_cases h0 : 0 <= oIx l p.2
  ·obtain ⟨h3, h4⟩ := h h0;refine .inr ⟨h3, ?_⟩;rw [List.all_eq_true];intro j hj;rw [List.all_eq_true];intro k hk;simp at hj hk
   cases hb : Vv l p.1 p.2 j k with
   | false => rfl
   | true =>
    simp [Vv] at hb;have h5 := h4 j hj hb.1;have h6 := (Zqc (by omega) hb.2).2;omega
  ·exact .inl h0
theorem ZkV {x : Inst} (hf : IFacts x) (l : List Vis) : ZjP x l = ZQ x l := by
 by_cases ho : l.any (Vd x) = true
 ·rw [ZjP, if_pos ho, ZQ, if_pos (.inr ho)]
 ·have ho' : l.any (Vd x) = false := by simpa using ho
  have hi : Inr x l := fun v hv => by
   rw [List.any_eq_false] at ho';simpa [Vd] using ho' v hv
  have hn : x.orders.length <= 60 := by have := hf.len; omega
  rw [ZjP, if_neg ho, ZQ]
  by_cases h0 : l.length = 0
  ·rw [if_pos h0, if_pos (.inl h0)]
  ·have hc : ¬ (l.length = 0 \/ l.any (Vd x) = true) := fun h => h.elim h0 ho;rw [if_neg h0, if_neg hc, ZfQ]
   have e1 : apB x (XJ l) = x.apart.any fun p => hasO l p.1 && hasO l p.2 := by
    rw [apB, Bool.eq_iff_iff, List.any_eq_true, List.any_eq_true]
    have : ∀ p ∈ x.apart, (U6 (XJ l) p.1 && U6 (XJ l) p.2) = (hasO l p.1 && hasO l p.2) := fun p hp => by
     have := hf.aval p hp;rw [UC hi hn _ (by omega), UC hi hn _ (by omega)]
    exact ⟨fun ⟨p, hp, h⟩ => ⟨p, hp, by rw [<- this p hp]; exact h⟩, fun ⟨p, hp, h⟩ => ⟨p, hp, by rw [this p hp]; exact h⟩⟩
   have e2 : (x.before.all (Vk (XJ l) l) = false) = ((x.before.any fun p => !beforeB l p.1 p.2) = true) := by
    have : ∀ p ∈ x.before, Vk (XJ l) l p = beforeB l p.1 p.2 := fun p hp => by
     have := hf.val p hp;exact Zc6 hi hn (by omega) (by omega) (hf.ne p hp)
    rw [List.all_eq_false, List.any_eq_true];simp only [eq_iff_iff];exact ⟨fun ⟨p, hp, h⟩ => ⟨p, hp, by rw [<- this p hp]; simpa using h⟩, fun ⟨p, hp, h⟩ => ⟨p, hp, by rw [this p hp]; simpa using h⟩⟩
   rw [e1];simp only [e2]
end Go.Proofs.YtcdoglogglbemaaGreatDoor.K
