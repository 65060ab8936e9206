/- Declarations that the closing texts need, part 7: joined by tools/slim.py. -/
import Derived.Test.YtccjopdlbolnhaaGreatDoorZ6
import Derived.Test.YtccjopdlbolnhaaGreatDoorRows
set_option linter.unusedVariables false
set_option linter.unusedSimpArgs false
namespace Go.Proofs.YtccjopdlbolnhaaGreatDoor.K
open Go Go.AM Go.Proofs
mutual
theorem dsz_le {H : Type} : (d : DataW H) → dsz d ≤ Rows.uptoBulk d
  | .lit l => by cases l <;> simp [dsz, Rows.uptoBulk]
  | .nil => by simp [dsz, Rows.uptoBulk]
  | .ptr d => by have := dsz_le d; simp only [dsz, Rows.uptoBulk]; omega
  | .slice es sp => by have := dszs_le es; have := dszs_le sp; simp only [dsz, Rows.uptoBulk]; omega
  | .agg ps => by have := dszs_le ps; simp only [dsz, Rows.uptoBulk]; omega
  | .iface _ d => by have := dsz_le d; simp only [dsz, Rows.uptoBulk]; omega
  | .map es => by simp only [dsz, Rows.uptoBulk]; omega
  | .held h => by simp [dsz, Rows.uptoBulk]
theorem dszs_le {H : Type} : (l : List (DataW H)) → dszs l ≤ Rows.uptoBulkAll l
  | [] => by simp [dszs, Rows.uptoBulkAll]
  | d :: r => by have := dsz_le d; have := dszs_le r; simp only [dszs, Rows.uptoBulkAll]; omega
end
theorem small_dszs {H : Type} {l : List (DataW H)} (h : Rows.uptoSmall H l = true) : dszs l ≤ 1048576 := by
  have h1 := dszs_le l
  have h2 : Rows.uptoBulkAll l ≤ 1048576 := of_decide_eq_true h
  omega
end Go.Proofs.YtccjopdlbolnhaaGreatDoor.K
set_option linter.unusedVariables false
set_option linter.unusedSimpArgs false
namespace Go.Proofs.YtccjopdlbolnhaaGreatDoor.K
open Go Go.AM Go.Proofs
abbrev I64 (n : Int) : Prop := -9223372036854775808 ≤ n ∧ n ≤ 9223372036854775807
def eI (n : Int) : PV := .int .i64 n
def eB (b : Bool) : PV := .bool b
def eS (s : List UInt8) : PV := .str s
def eP (p : Int × Int) : PV := .agg [.int .i64 p.1, .int .i64 p.2]
@[go_sem] theorem eI_eq (n : Int) : eI n = .int .i64 n := Eq.trans rfl rfl
@[go_sem] theorem eB_eq (b : Bool) : eB b = .bool b := Eq.trans rfl rfl
@[go_sem] theorem eS_eq (s : List UInt8) : eS s = .str s := Eq.trans rfl rfl
@[go_sem] theorem eP_eq (p : Int × Int) : eP p = .agg [.int .i64 p.1, .int .i64 p.2] := Eq.trans rfl rfl
@[go_sem] theorem allS_eI (l : List Int) : allS 1 (l.map eI) = true := allS_map (f := eI) (S := 1) (fun _ => rfl) l
@[go_sem] theorem okE_eI (l : List Int) : okE 1 (l.map eI) = true := okE_map fun _ => rfl
@[go_sem] theorem allS_eB (l : List Bool) : allS 1 (l.map eB) = true := allS_map (f := eB) (S := 1) (fun _ => rfl) l
@[go_sem] theorem okE_eB (l : List Bool) : okE 1 (l.map eB) = true := okE_map fun _ => rfl
@[go_sem] theorem allS_eS (l : List (List UInt8)) : allS 1 (l.map eS) = true := allS_map (f := eS) (S := 1) (fun _ => rfl) l
@[go_sem] theorem okE_eS (l : List (List UInt8)) : okE 1 (l.map eS) = true := okE_map fun _ => rfl
@[go_sem] theorem allS_eP (l : List (Int × Int)) : allS 2 (l.map eP) = true := allS_map (f := eP) (S := 2) (fun _ => rfl) l
@[go_sem] theorem okE_eP (l : List (Int × Int)) : okE 2 (l.map eP) = true := okE_map fun _ => rfl
theorem fit_ints {B xs} (h : ∀ y ∈ xs, FitV Tryz.prog B 3 y) : ∃ l : List Int, xs = l.map eI ∧ ∀ n ∈ l, I64 n :=
  row_map (f := eI) fun y hy => by
    obtain ⟨n, rfl, w⟩ := fit_int Tryz.underlying3 (h y hy)
    exact ⟨n, rfl, i64_wf w⟩
structure Pt where
  t : Int
  a : Int
  deriving Inhabited
def ePt (x : Pt) : PV := .agg [.int .i64 x.t, .int .i64 x.a]
@[go_sem] theorem ePt_eq (x : Pt) : ePt x = .agg [.int .i64 x.t, .int .i64 x.a] := Eq.trans rfl rfl
@[go_sem] theorem allS_ePt (l : List Pt) : allS 2 (l.map ePt) = true := allS_map (f := ePt) (S := 2) (fun _ => rfl) l
@[go_sem] theorem okE_ePt (l : List Pt) : okE 2 (l.map ePt) = true := okE_map fun _ => rfl
structure Arc where
  src : Int
  dst : Int
  prof : Int
  miles : Int
  travel_c : Bool
  travel : List (Pt)
  slow_c : Bool
  slow : List (Pt)
  deriving Inhabited
def eArc (x : Arc) : PV := .agg [.int .i64 x.src, .int .i64 x.dst, .int .i64 x.prof, .int .i64 x.miles, .list x.travel_c (x.travel.map ePt), .list x.slow_c (x.slow.map ePt)]
@[go_sem] theorem eArc_eq (x : Arc) : eArc x = .agg [.int .i64 x.src, .int .i64 x.dst, .int .i64 x.prof, .int .i64 x.miles, .list x.travel_c (x.travel.map ePt), .list x.slow_c (x.slow.map ePt)] := Eq.trans rfl rfl
@[go_sem] theorem allS_eArc (l : List Arc) : allS 6 (l.map eArc) = true := allS_map (f := eArc) (S := 6) (fun _ => rfl) l
@[go_sem] theorem okE_eArc (l : List Arc) : okE 6 (l.map eArc) = true := okE_map fun _ => rfl
structure Net where
  places_c : Bool
  places : List (List UInt8)
  arcs_c : Bool
  arcs : List (Arc)
  deriving Inhabited
structure Typ where
  name : List UInt8
  count : Int
  src : Int
  dst : Int
  cap_c : Bool
  cap : List (Int)
  skills : Int
  prof : Int
  opn : Int
  cls : Int
  drive : Int
  rest : Int
  fixed : Int
  perMile : Int
  perTick : Int
  deriving Inhabited
def eTyp (x : Typ) : PV := .agg [.str x.name, .int .i64 x.count, .int .i64 x.src, .int .i64 x.dst, .list x.cap_c (x.cap.map eI), .int .i64 x.skills, .int .i64 x.prof, .int .i64 x.opn, .int .i64 x.cls, .int .i64 x.drive, .int .i64 x.rest, .int .i64 x.fixed, .int .i64 x.perMile, .int .i64 x.perTick]
@[go_sem] theorem eTyp_eq (x : Typ) : eTyp x = .agg [.str x.name, .int .i64 x.count, .int .i64 x.src, .int .i64 x.dst, .list x.cap_c (x.cap.map eI), .int .i64 x.skills, .int .i64 x.prof, .int .i64 x.opn, .int .i64 x.cls, .int .i64 x.drive, .int .i64 x.rest, .int .i64 x.fixed, .int .i64 x.perMile, .int .i64 x.perTick] := Eq.trans rfl rfl
@[go_sem] theorem allS_eTyp (l : List Typ) : allS 14 (l.map eTyp) = true := allS_map (f := eTyp) (S := 14) (fun _ => rfl) l
@[go_sem] theorem okE_eTyp (l : List Typ) : okE 14 (l.map eTyp) = true := okE_map fun _ => rfl
structure Stp where
  place : Int
  opn : Int
  cls : Int
  serv : Int
  deriving Inhabited
structure Ord where
  name : List UInt8
  load_c : Bool
  load : List (Int)
  pick : Stp
  drp : Stp
  skills : Int
  penalty : Int
  split : Int
  last : Int
  now : Int
  off : Bool
  deriving Inhabited
def eOrd (x : Ord) : PV := .agg [.str x.name, .list x.load_c (x.load.map eI), .int .i64 x.pick.place, .int .i64 x.pick.opn, .int .i64 x.pick.cls, .int .i64 x.pick.serv, .int .i64 x.drp.place, .int .i64 x.drp.opn, .int .i64 x.drp.cls, .int .i64 x.drp.serv, .int .i64 x.skills, .int .i64 x.penalty, .int .i64 x.split, .int .i64 x.last, .int .i64 x.now, .bool x.off]
@[go_sem] theorem eOrd_eq (x : Ord) : eOrd x = .agg [.str x.name, .list x.load_c (x.load.map eI), .int .i64 x.pick.place, .int .i64 x.pick.opn, .int .i64 x.pick.cls, .int .i64 x.pick.serv, .int .i64 x.drp.place, .int .i64 x.drp.opn, .int .i64 x.drp.cls, .int .i64 x.drp.serv, .int .i64 x.skills, .int .i64 x.penalty, .int .i64 x.split, .int .i64 x.last, .int .i64 x.now, .bool x.off] := Eq.trans rfl rfl
@[go_sem] theorem allS_eOrd (l : List Ord) : allS 16 (l.map eOrd) = true := allS_map (f := eOrd) (S := 16) (fun _ => rfl) l
@[go_sem] theorem okE_eOrd (l : List Ord) : okE 16 (l.map eOrd) = true := okE_map fun _ => rfl
structure Inst where
  net : Net
  types_c : Bool
  types : List (Typ)
  orders_c : Bool
  orders : List (Ord)
  apart_c : Bool
  apart : List (Int × Int)
  before_c : Bool
  before : List (Int × Int)
  deriving Inhabited
def eInst (x : Inst) : PV := .agg [.list x.net.places_c (x.net.places.map eS), .list x.net.arcs_c (x.net.arcs.map eArc), .list x.types_c (x.types.map eTyp), .list x.orders_c (x.orders.map eOrd), .list x.apart_c (x.apart.map eP), .list x.before_c (x.before.map eP)]
@[go_sem] theorem eInst_eq (x : Inst) : eInst x = .agg [.list x.net.places_c (x.net.places.map eS), .list x.net.arcs_c (x.net.arcs.map eArc), .list x.types_c (x.types.map eTyp), .list x.orders_c (x.orders.map eOrd), .list x.apart_c (x.apart.map eP), .list x.before_c (x.before.map eP)] := Eq.trans rfl rfl
@[go_sem] theorem allS_eInst (l : List Inst) : allS 6 (l.map eInst) = true := allS_map (f := eInst) (S := 6) (fun _ => rfl) l
@[go_sem] theorem okE_eInst (l : List Inst) : okE 6 (l.map eInst) = true := okE_map fun _ => rfl
structure Vis where
  order : Int
  drp : Bool
  deriving Inhabited
def eVis (x : Vis) : PV := .agg [.int .i64 x.order, .bool x.drp]
@[go_sem] theorem eVis_eq (x : Vis) : eVis x = .agg [.int .i64 x.order, .bool x.drp] := Eq.trans rfl rfl
@[go_sem] theorem allS_eVis (l : List Vis) : allS 2 (l.map eVis) = true := allS_map (f := eVis) (S := 2) (fun _ => rfl) l
@[go_sem] theorem okE_eVis (l : List Vis) : okE 2 (l.map eVis) = true := okE_map fun _ => rfl
structure Rte where
  typ : Int
  start : Int
  rests_c : Bool
  rests : List (Bool)
  visits_c : Bool
  visits : List (Vis)
  deriving Inhabited
def eRte (x : Rte) : PV := .agg [.int .i64 x.typ, .int .i64 x.start, .list x.rests_c (x.rests.map eB), .list x.visits_c (x.visits.map eVis)]
@[go_sem] theorem eRte_eq (x : Rte) : eRte x = .agg [.int .i64 x.typ, .int .i64 x.start, .list x.rests_c (x.rests.map eB), .list x.visits_c (x.visits.map eVis)] := Eq.trans rfl rfl
@[go_sem] theorem allS_eRte (l : List Rte) : allS 4 (l.map eRte) = true := allS_map (f := eRte) (S := 4) (fun _ => rfl) l
@[go_sem] theorem okE_eRte (l : List Rte) : okE 4 (l.map eRte) = true := okE_map fun _ => rfl
structure Pln where
  routes_c : Bool
  routes : List (Rte)
  unserved_c : Bool
  unserved : List (Int)
  deriving Inhabited
def ePln (x : Pln) : PV := .agg [.list x.routes_c (x.routes.map eRte), .list x.unserved_c (x.unserved.map eI)]
@[go_sem] theorem ePln_eq (x : Pln) : ePln x = .agg [.list x.routes_c (x.routes.map eRte), .list x.unserved_c (x.unserved.map eI)] := Eq.trans rfl rfl
@[go_sem] theorem allS_ePln (l : List Pln) : allS 2 (l.map ePln) = true := allS_map (f := ePln) (S := 2) (fun _ => rfl) l
@[go_sem] theorem okE_ePln (l : List Pln) : okE 2 (l.map ePln) = true := okE_map fun _ => rfl
end Go.Proofs.YtccjopdlbolnhaaGreatDoor.K
set_option linter.unusedVariables false
set_option linter.unusedSimpArgs false
namespace Go.Proofs.YtccjopdlbolnhaaGreatDoor.K
open Go Go.AM Go.Proofs
theorem own : ownKnob Tryz.prog.godebug = none := by kernel_rfl
theorem laidOut : laidOutB Tryz.prog = true := by kernel_rfl
end Go.Proofs.YtccjopdlbolnhaaGreatDoor.K
set_option linter.unusedVariables false
set_option linter.unusedSimpArgs false
namespace Go.Proofs.YtccjopdlbolnhaaGreatDoor.K
open Go Go.AM Go.Proofs
theorem upto_iff {p : Nat → Prop} {k : Nat} : (∀ j, j < k + 1 → p j) ↔ ((∀ j, j < k → p j) ∧ p k) :=
  ⟨fun h => ⟨fun j hj => h j (by omega), h k (by omega)⟩, fun h j hj => by
    rcases Nat.lt_or_ge j k with h1 | h1
    · exact h.1 j h1
    · have : j = k := by omega
      rw [this]; exact h.2⟩
end Go.Proofs.YtccjopdlbolnhaaGreatDoor.K
set_option linter.unusedVariables false
set_option linter.unusedSimpArgs false
namespace Go.Proofs.YtccjopdlbolnhaaGreatDoor.K
open Go Go.AM Go.Proofs
set_option maxRecDepth 8000
set_option maxHeartbeats 8000000
theorem nth_mem {α : Type} [Inhabited α] {l : List α} {i : Nat} (h : i < l.length) : nth l i ∈ l := by rw [nth_get h]; exact List.getElem_mem _
end Go.Proofs.YtccjopdlbolnhaaGreatDoor.K
set_option linter.unusedVariables false
set_option linter.unusedSimpArgs false
namespace Go.Proofs.YtccjopdlbolnhaaGreatDoor.K
open Go Go.AM Go.Proofs
set_option maxRecDepth 8000
set_option maxHeartbeats 4000000
def hdr (word : List UInt8) (l : List (Int × Int)) : List (Int × List UInt8) := if 16 < l.length then [(4, word)] else []
end Go.Proofs.YtccjopdlbolnhaaGreatDoor.K
set_option linter.unusedVariables false
set_option linter.unusedSimpArgs false
namespace Go.Proofs.YtccjopdlbolnhaaGreatDoor.K
open Go Go.AM Go.Proofs
set_option maxRecDepth 8000
set_option maxHeartbeats 16000000
@[go_sem] theorem app1_genm {H : List AM.Obj} {β : Type} {S b o n : Nat} {xs : List PV} {g : β → PV} {m : List β} (hb : (n + m.length) * b ≤ 140737488355328) (hb2 : n + m.length ≤ 140737488355328) :
    app1 H (some (S, b)) (.elems S xs) o n (some (m.map g)) = if xs.length = n ∧ okE S (m.map g) = true then some (.sl o 0 (n + m.length) (n + m.length), ost H o (.elems S (xs ++ m.map g))) else none := by
  rw [app1_gen]
  simp only [List.length_map, hb, hb2, and_true]
end Go.Proofs.YtccjopdlbolnhaaGreatDoor.K
set_option linter.unusedVariables false
set_option linter.unusedSimpArgs false
namespace Go.Proofs.YtccjopdlbolnhaaGreatDoor.K
open Go Go.AM Go.Proofs
def instO (x : Inst) : AM.Obj := .cells [.p (.list x.net.places_c (x.net.places.map eS)), .p (.list x.net.arcs_c (x.net.arcs.map eArc)), .p (.list x.types_c (x.types.map eTyp)), .p (.list x.orders_c (x.orders.map eOrd)), .p (.list x.apart_c (x.apart.map eP)), .p (.list x.before_c (x.before.map eP))]
end Go.Proofs.YtccjopdlbolnhaaGreatDoor.K
set_option linter.unusedVariables false
set_option linter.unusedSimpArgs false
namespace Go.Proofs.YtccjopdlbolnhaaGreatDoor.K
open Go Go.AM Go.Proofs
set_option maxRecDepth 8000
set_option maxHeartbeats 8000000
def hv (s k : Nat) : Nat := s / pw k
theorem any_yes {α : Type} [Inhabited α] {l : List α} {f : α → Bool} {k : Nat} (h : k < l.length) (hf : f (nth l k) = true) : l.any f = true := by
  rw [List.any_eq_true]; exact ⟨nth l k, by rw [nth_get h]; exact List.getElem_mem _, hf⟩
theorem any_no {α : Type} [Inhabited α] {l : List α} {f : α → Bool} (h : ∀ j, j < l.length → f (nth l j) = false) : l.any f = false := by
  rw [List.any_eq_false]
  intro x hx
  obtain ⟨j, hj, rfl⟩ := List.mem_iff_getElem.1 hx
  rw [← nth_get hj, h j hj]; simp
end Go.Proofs.YtccjopdlbolnhaaGreatDoor.K
set_option linter.unusedVariables false
set_option linter.unusedSimpArgs false
namespace Go.Proofs.YtccjopdlbolnhaaGreatDoor.K
open Go Go.AM Go.Proofs
set_option maxRecDepth 8000
set_option maxHeartbeats 8000000
deriving instance DecidableEq for Vis
theorem vis_eq {v w : Vis} : v = w ↔ v.order = w.order ∧ v.drp = w.drp := by cases v; cases w; simp
/-- the first place of a visit, or -1 -/
def fIx (f : Vis → Bool) (l : List Vis) : Int := match l.findIdx? f with | some i => (i : Int) | none => -1
def vIx (l : List Vis) (v : Vis) : Int := fIx (fun w => decide (v = w)) l
theorem fIx_at {f : Vis → Bool} {l : List Vis} {k : Nat} (hk : k < l.length) (h : f (nth l k) = true) (hno : ∀ j, j < k → f (nth l j) = false) : fIx f l = (k : Int) := by
  have : l.findIdx? f = some k := by
    rw [List.findIdx?_eq_some_iff_getElem]
    refine ⟨hk, by rw [← nth_get hk]; exact h, fun j hj => ?_⟩
    have h2 := hno j hj
    rw [nth_get (by omega)] at h2
    simpa using h2
  simp [fIx, this]
theorem fIx_no {f : Vis → Bool} {l : List Vis} (hno : ∀ j, j < l.length → f (nth l j) = false) : fIx f l = -1 := by
  have : l.findIdx? f = none := by
    rw [List.findIdx?_eq_none_iff]
    intro x hx
    obtain ⟨j, hj, rfl⟩ := List.mem_iff_getElem.1 hx
    rw [← nth_get hj]; exact hno j hj
  simp [fIx, this]
theorem fIx_ge {f : Vis → Bool} {l : List Vis} : decide (0 ≤ fIx f l) = l.any f := by
  unfold fIx
  cases h : l.findIdx? f with
  | none =>
    rw [List.findIdx?_eq_none_iff] at h
    have : l.any f = false := by rw [List.any_eq_false]; intro x hx; simp [h x hx]
    simp [this]
  | some i =>
    rw [List.findIdx?_eq_some_iff_getElem] at h
    obtain ⟨h1, h2, _⟩ := h
    have : l.any f = true := by rw [List.any_eq_true]; exact ⟨l[i], List.getElem_mem _, h2⟩
    simp [this]
theorem fIx_lt {f : Vis → Bool} {l : List Vis} : fIx f l < l.length ∧ -1 ≤ fIx f l := by
  unfold fIx
  cases h : l.findIdx? f with
  | none => simp; omega
  | some i =>
    rw [List.findIdx?_eq_some_iff_getElem] at h
    obtain ⟨h1, _⟩ := h
    simp; omega
theorem index_c (l : List Vis) (c : Bool) (v : Vis) (hl : l.length ≤ 1048576) : ACalls Tryz.prog 234 [.p (.list c (l.map eVis)), .p (eVis v)] [] fun x H' => x = .p (.int .i64 (vIx l v)) ∧ H' = [] := by
  refine acalls_pure (fn := Tryz.f234) Tryz.func234 rfl isF234 ?_
  simp (disch := omega) only [Tryz.f234, go_sem, seval, reduceCtorEq, ↓reduceIte]
  refine awp_for [0, 3, 7] (fun k : Nat => [(8, .p (.int .i64 k))]) (fun _ => [.cells [.p (.int .i64 v.order), .p (.bool v.drp)]]) (fun k => k ≤ l.length ∧ ∀ j, j < k → decide (v = nth l j) = false) (fun k => l.length - k) 0 (by simp) (Weak.mk ?_) ?_
  · simp (disch := omega) only [go_sem, seval, reduceCtorEq, ↓reduceIte]
  · rintro k ⟨hk, hno⟩
    simp (disch := omega) only [go_sem, seval, reduceCtorEq, ↓reduceIte]
    refine acond_b (fun h => ?_) (fun h => ?_) <;> (try simp only [decide_eq_true_eq, decide_eq_false_iff_not] at h) <;> simp (disch := omega) only [Sh.out h, go_sem, seval, reduceCtorEq, ↓reduceIte]
    · have hk2 : k < l.length := by omega
      refine awp_drawnA mixed (by kernel_rfl) (by kernel_rfl) ?_
      simp (disch := omega) only [go_sem, seval, reduceCtorEq, ↓reduceIte]
      refine acond_b (fun h2 => ?_) (fun h2 => ?_) <;> (try simp only [decide_eq_true_eq, decide_eq_false_iff_not] at h2) <;> simp (disch := omega) only [Sh.out h2, go_sem, seval, reduceCtorEq, ↓reduceIte]
      · have : v = nth l k := by simpa [vis_eq] using h2
        rw [vIx, fIx_at hk2 (by simpa using this) hno]
      · have : ¬ v = nth l k := by simpa [vis_eq] using h2
        exact ⟨k + 1, ⟨by omega, upto_iff.2 ⟨hno, by simpa using this⟩⟩, by omega, Weak.mk (by simp (disch := omega) only [go_sem, seval, reduceCtorEq, ↓reduceIte])⟩
    · have hkl : k = l.length := by omega
      subst hkl
      rw [vIx, fIx_no hno]
theorem place_c (l : List Vis) (c : Bool) (v : Vis) (hl : l.length ≤ 1048576) : ACalls Tryz.prog 212 [.p (.list c (l.map eVis)), .p (eVis v)] [] fun x H' => x = .p (.int .i64 (vIx l v)) ∧ H' = [] := by
  refine acalls_pure (fn := Tryz.f212) Tryz.func212 rfl isF212 ?_
  simp (disch := omega) only [Tryz.f212, go_sem, seval, reduceCtorEq, ↓reduceIte]
  refine (index_c l c v hl).use ?_
  simp (disch := omega) only [go_sem, seval, reduceCtorEq, ↓reduceIte]
theorem contains16_c (l : List Vis) (c : Bool) (v : Vis) (hl : l.length ≤ 1048576) : ACalls Tryz.prog 214 [.p (.list c (l.map eVis)), .p (eVis v)] [] fun x H' => x = .p (.bool (decide (0 ≤ vIx l v))) ∧ H' = [] := by
  refine acalls_pure (fn := Tryz.f214) Tryz.func214 rfl isF214 ?_
  simp (disch := omega) only [Tryz.f214, go_sem, seval, reduceCtorEq, ↓reduceIte]
  refine (index_c l c v hl).use ?_
  simp (disch := omega) only [go_sem, seval, reduceCtorEq, ↓reduceIte]
theorem there_c (l : List Ord) (c : Bool) (n : Int) (hl : l.length ≤ 1048576) : ACalls Tryz.prog 81 [.p (.list c (l.map eOrd)), .p (.int .i64 n)] [] fun x H' => x = .p (.bool (decide (0 ≤ n ∧ n < l.length))) ∧ H' = [] := by
  refine acalls_pure (fn := Tryz.f81) Tryz.func81 rfl isF81 ?_
  simp (disch := omega) only [Tryz.f81, go_sem, seval, reduceCtorEq, ↓reduceIte]
  refine aguard_t (fun h => ?_) (fun h => ?_) <;> (try simp only [decide_eq_true_eq, decide_eq_false_iff_not] at h) <;> simp (disch := omega) only [Sh.out h, go_sem, seval, reduceCtorEq, ↓reduceIte]
  all_goals (try simp [h])
/-- the visits of an order -/
def visO (l : List Ord) (i : Nat) : List Vis := (if 0 ≤ (nth l i).pick.place then [⟨i, false⟩] else []) ++ (if 0 ≤ (nth l i).drp.place then [⟨i, true⟩] else [])
theorem visO_len (l : List Ord) (i : Nat) : (visO l i).length ≤ 2 := by unfold visO; split <;> split <;> simp
theorem visits_own (l : List Ord) (c : Bool) (i : Nat) (hi : i < l.length) (hl : l.length ≤ 1048576) : ACalls Tryz.prog 213 [.p (.list c (l.map eOrd)), .p (.int .i64 (i : Nat))] [] fun x H' => x = .sl 0 0 (visO l i).length (visO l i).length ∧ H' = [.elems 2 ((visO l i).map eVis)] := by
  suffices hh : ACalls Tryz.prog 213 [.p (.list c (l.map eOrd)), .p (.int .i64 (i : Nat))] [] fun x H' => ∃ m : List Vis, m = visO l i ∧ x = .sl 0 0 m.length m.length ∧ H' = [.elems 2 (m.map eVis)] by
    refine hh.mono ?_
    rintro x H' ⟨m, rfl, h1, h2⟩
    exact ⟨h1, h2⟩
  refine acalls_freshE [2] (fn := Tryz.f213) Tryz.func213 rfl isF213 ?_
  simp (disch := omega) only [Tryz.f213, go_sem, seval, reduceCtorEq, ↓reduceIte]
  refine awp_weak (Weak.ofNil 5 2 (by simp (disch := omega) only [go_sem, seval, reduceCtorEq, ↓reduceIte]) (by simp) (Weak.refl _ _ _)) ?_
  refine awp_sound [4] _ _ _ _ ?_
  simp (disch := omega) only [go_sem, seval, reduceCtorEq, ↓reduceIte]
  refine (there_c l c i hl).use ?_
  simp (disch := omega) only [go_sem, seval, reduceCtorEq, ↓reduceIte]
  have h0 : (0 : Int) ≤ (i : Int) ∧ (i : Int) < (l.length : Int) := by omega
  simp (disch := omega) only [h0, go_sem, seval, reduceCtorEq, ↓reduceIte]
  refine awp_join [0, 1] (fun m : List Vis => [(5, .sl 0 0 m.length m.length)]) (fun m => [.elems 2 (m.map eVis)]) (fun m => m = (if 0 ≤ (nth l i).pick.place then [⟨i, false⟩] else [])) ?_ ?_
  · simp (disch := omega) only [go_sem, seval, reduceCtorEq, ↓reduceIte]
    refine acond_b (fun h => ?_) (fun h => ?_) <;> (try simp only [decide_eq_true_eq, decide_eq_false_iff_not] at h) <;> simp (disch := omega) only [Sh.out h, go_sem, seval, reduceCtorEq, ↓reduceIte]
    · exact ⟨[⟨i, false⟩], by simp [h], Weak.mk (by simp (disch := omega) only [go_sem, seval, reduceCtorEq, ↓reduceIte])⟩
    · exact ⟨[], by simp [h], Weak.mk (by simp (disch := omega) only [go_sem, seval, reduceCtorEq, ↓reduceIte])⟩
  · intro m hm
    have hml : m.length ≤ 1 := by rw [hm]; split <;> simp
    refine awp_sound [] _ _ _ _ ?_
    simp (disch := omega) only [go_sem, seval, reduceCtorEq, ↓reduceIte]
    refine acond_b (fun h => ?_) (fun h => ?_) <;> (try simp only [decide_eq_true_eq, decide_eq_false_iff_not] at h) <;> simp (disch := omega) only [Sh.out h, go_sem, seval, reduceCtorEq, ↓reduceIte]
    · exact ⟨m ++ [⟨i, true⟩], by rw [visO, hm, if_pos h], 0, by simp (disch := omega) only [go_sem, seval, reduceCtorEq, ↓reduceIte]⟩
    · exact ⟨m, by rw [visO, hm, if_neg h, List.append_nil], 0, by simp (disch := omega) only [go_sem, seval, reduceCtorEq, ↓reduceIte]⟩
theorem visits_c (l : List Ord) (c : Bool) (i : Nat) (hi : i < l.length) (hl : l.length ≤ 1048576) : ACalls Tryz.prog 213 [.p (.list c (l.map eOrd)), .p (.int .i64 (i : Nat))] [] fun x H' => x = .p (.list false ((visO l i).map eVis)) ∧ H' = [] :=
  (visits_own l c i hi hl).frozen (by simp)
/-- a visit occurs twice -/
def twiceB (l : List Vis) : Bool := (List.range l.length).any fun i => decide (0 ≤ vIx (l.take i) (nth l i))
theorem twice_c (l : List Vis) (c : Bool) (hl : l.length ≤ 1048576) : ACalls Tryz.prog 169 [.p (.list c (l.map eVis))] [] fun x H' => x = .p (.bool (twiceB l)) ∧ H' = [] := by
  refine acalls_pure (fn := Tryz.f169) Tryz.func169 rfl isF169 ?_
  simp (disch := omega) only [Tryz.f169, go_sem, seval, reduceCtorEq, ↓reduceIte]
  refine awp_for [0, 5, 6] (fun k : Nat => [(7, .p (.int .i64 k))]) (fun _ => []) (fun k => k ≤ l.length ∧ ∀ j, j < k → decide (0 ≤ vIx (l.take j) (nth l j)) = false) (fun k => l.length - k) 0 (by simp) (Weak.mk ?_) ?_
  · simp (disch := omega) only [go_sem, seval, reduceCtorEq, ↓reduceIte]
  · rintro k ⟨hk, hno⟩
    simp (disch := omega) only [go_sem, seval, reduceCtorEq, ↓reduceIte]
    refine acond_b (fun h => ?_) (fun h => ?_) <;> (try simp only [decide_eq_true_eq, decide_eq_false_iff_not] at h) <;> simp (disch := omega) only [Sh.out h, go_sem, seval, reduceCtorEq, ↓reduceIte]
    · have hk2 : k < l.length := by omega
      refine awp_drawnA mixed (by kernel_rfl) (by kernel_rfl) ?_
      simp (disch := omega) only [go_sem, seval, reduceCtorEq, ↓reduceIte]
      refine exq_call (place_c (l.take k) _ (nth l k) (by simp; omega)) ?_
      simp (disch := omega) only [go_sem, seval, reduceCtorEq, ↓reduceIte]
      refine acond_b (fun h2 => ?_) (fun h2 => ?_) <;> (try simp only [decide_eq_true_eq, decide_eq_false_iff_not] at h2) <;> simp (disch := omega) only [Sh.out h2, go_sem, seval, reduceCtorEq, ↓reduceIte]
      · have : twiceB l = true := by rw [twiceB, List.any_eq_true]; exact ⟨k, by simpa using hk2, by simpa using h2⟩
        rw [this]
      · exact ⟨k + 1, ⟨by omega, upto_iff.2 ⟨hno, by simpa using h2⟩⟩, by omega, Weak.mk (by simp (disch := omega) only [go_sem, seval, reduceCtorEq, ↓reduceIte])⟩
    · have hkl : k = l.length := by omega
      subst hkl
      have : twiceB l = false := by rw [twiceB, List.any_eq_false]; intro j hj; simpa using hno j (by simpa using hj)
      rw [this]
/-- a function of visits, in a heap that it leaves azs it is -/
theorem indexFunc_c (l : List Vis) (c : Bool) (g : FuncId) (caps : List V) (H : List AM.Obj) (f : Vis → Bool) (hl : l.length ≤ 1048576) (hW : wkH H H.length H H) (hc : refBs H.length caps = true)
    (hg : ∀ v ∈ l, ACalls Tryz.prog g (.p (eVis v) :: caps) H fun x H' => x = .p (.bool (f v)) ∧ H' = H) :
    ACalls Tryz.prog 211 [.p (.list c (l.map eVis)), .fn (.func g) [] caps] H fun x H' => x = .p (.int .i64 (fIx f l)) ∧ H' = H := by
  refine acalls_of (fn := Tryz.f211) Tryz.func211 rfl isF211 (awp_sound [] _ _ _ _ ?_)
  simp (disch := omega) only [Tryz.f211, go_sem, seval, reduceCtorEq, ↓reduceIte]
  refine awp_for [0, 1, 7] (fun k : Nat => [(8, .p (.int .i64 k))]) (fun _ => H) (fun k => k ≤ l.length ∧ ∀ j, j < k → f (nth l j) = false) (fun k => l.length - k) 0 (by simp) (Weak.mk ?_) ?_
  · simp (disch := omega) only [hW, hc, go_sem, seval, reduceCtorEq, ↓reduceIte]
    simp
  · rintro k ⟨hk, hno⟩
    simp (disch := omega) only [go_sem, seval, reduceCtorEq, ↓reduceIte]
    refine acond_b (fun h => ?_) (fun h => ?_) <;> (try simp only [decide_eq_true_eq, decide_eq_false_iff_not] at h) <;> simp (disch := omega) only [Sh.out h, go_sem, seval, reduceCtorEq, ↓reduceIte]
    · have hk2 : k < l.length := by omega
      refine (hg (nth l k) (nth_mem hk2)).useH ?_
      simp (disch := omega) only [go_sem, seval, reduceCtorEq, ↓reduceIte]
      refine acond_b (fun h2 => ?_) (fun h2 => ?_) <;> (try simp only [decide_eq_true_eq, decide_eq_false_iff_not] at h2) <;> simp (disch := omega) only [Sh.out h2, go_sem, seval, reduceCtorEq, ↓reduceIte]
      · rw [fIx_at hk2 h2 hno]
      · have h3 : f (nth l k) = false := by simpa using h2
        refine ⟨k + 1, ⟨by omega, upto_iff.2 ⟨hno, h3⟩⟩, by omega, Weak.mk ?_⟩
        simp (disch := omega) only [hW, hc, go_sem, seval, reduceCtorEq, ↓reduceIte]
        simp
    · have hkl : k = l.length := by omega
      subst hkl
      rw [fIx_no hno]
end Go.Proofs.YtccjopdlbolnhaaGreatDoor.K
set_option linter.unusedVariables false
set_option linter.unusedSimpArgs false
namespace Go.Proofs.YtccjopdlbolnhaaGreatDoor.K
open Go Go.AM Go.Proofs
set_option maxRecDepth 8000
set_option maxHeartbeats 8000000
theorem containsFunc_c (l : List Vis) (c : Bool) (g : FuncId) (caps : List V) (H : List AM.Obj) (f : Vis → Bool) (hl : l.length ≤ 1048576) (hW : wkH H H.length H H) (hc : refBs H.length caps = true)
    (hg : ∀ v ∈ l, ACalls Tryz.prog g (.p (eVis v) :: caps) H fun x H' => x = .p (.bool (f v)) ∧ H' = H) :
    ACalls Tryz.prog 166 [.p (.list c (l.map eVis)), .fn (.func g) [] caps] H fun x H' => x = .p (.bool (l.any f)) ∧ H' = H := by
  refine acalls_of (fn := Tryz.f166) Tryz.func166 rfl isF166 (awp_sound [] _ _ _ _ ?_)
  simp (disch := omega) only [Tryz.f166, go_sem, seval, reduceCtorEq, ↓reduceIte]
  refine (indexFunc_c l c g caps H f hl hW hc hg).useH ?_
  simp (disch := omega) only [go_sem, seval, reduceCtorEq, ↓reduceIte]
  rw [fIx_ge]
def hasO (l : List Vis) (o : Int) : Bool := l.any fun v => decide (v.order = o)
theorem has1_c (v : Vis) (o : Int) : ACalls Tryz.prog 215 [.p (eVis v), .ptr 0 0] [.cells [.p (.int .i64 o)]] fun x H' => x = .p (.bool (decide (v.order = o))) ∧ H' = [.cells [.p (.int .i64 o)]] := by
  refine acalls_weak [] (fn := Tryz.f215) Tryz.func215 rfl isF215 ?_
  simp (disch := omega) only [Tryz.f215, go_sem, seval, reduceCtorEq, ↓reduceIte]
  exact ⟨_, _, Weak.mk (by simp (disch := omega) only [go_sem, seval, reduceCtorEq, ↓reduceIte]), rfl, rfl⟩
theorem before1_c (v : Vis) (o : Int) : ACalls Tryz.prog 216 [.p (eVis v), .ptr 0 0] [.cells [.p (.int .i64 o)]] fun x H' => x = .p (.bool (decide (v.order = o))) ∧ H' = [.cells [.p (.int .i64 o)]] := by
  refine acalls_weak [] (fn := Tryz.f216) Tryz.func216 rfl isF216 ?_
  simp (disch := omega) only [Tryz.f216, go_sem, seval, reduceCtorEq, ↓reduceIte]
  exact ⟨_, _, Weak.mk (by simp (disch := omega) only [go_sem, seval, reduceCtorEq, ↓reduceIte]), rfl, rfl⟩
theorem seqHas_c (l : List Vis) (c : Bool) (o : Int) (hl : l.length ≤ 1048576) : ACalls Tryz.prog 171 [.p (.list c (l.map eVis)), .p (.int .i64 o)] [] fun x H' => x = .p (.bool (hasO l o)) ∧ H' = [] := by
  refine acalls_pure (fn := Tryz.f171) Tryz.func171 rfl isF171 ?_
  simp (disch := omega) only [Tryz.f171, go_sem, seval, reduceCtorEq, ↓reduceIte]
  refine (containsFunc_c l c 215 [.ptr 0 0] [.cells [.p (.int .i64 o)]] (fun v => decide (v.order = o)) hl (by simp (disch := omega) only [go_sem, seval, reduceCtorEq, ↓reduceIte]) (by rfl) (fun v _ => has1_c v o)).useH ?_
  simp (disch := omega) only [go_sem, seval, reduceCtorEq, ↓reduceIte]
  rw [hasO]
/-- a pair of orders is in order -/
def beforeB (l : List Vis) (a b : Int) : Bool := if fIx (fun v => decide (v.order = b)) l < 0 then true else hasO l a && !hasO (l.drop (fIx (fun v => decide (v.order = b)) l).toNat) a
theorem seqBefore_c (l : List Vis) (c : Bool) (a b : Int) (hl : l.length ≤ 1048576) : ACalls Tryz.prog 172 [.p (.list c (l.map eVis)), .p (.int .i64 a), .p (.int .i64 b)] [] fun x H' => x = .p (.bool (beforeB l a b)) ∧ H' = [] := by
  refine acalls_pure (fn := Tryz.f172) Tryz.func172 rfl isF172 ?_
  simp (disch := omega) only [Tryz.f172, go_sem, seval, reduceCtorEq, ↓reduceIte]
  refine (indexFunc_c l c 216 [.ptr 0 0] [.cells [.p (.int .i64 b)]] (fun v => decide (v.order = b)) hl (by simp (disch := omega) only [go_sem, seval, reduceCtorEq, ↓reduceIte]) (by rfl) (fun v _ => before1_c v b)).useH ?_
  have hlt := fIx_lt (f := fun v => decide (v.order = b)) (l := l)
  simp (disch := omega) only [go_sem, seval, reduceCtorEq, ↓reduceIte]
  refine acond_b (fun h => ?_) (fun h => ?_) <;> (try simp only [decide_eq_true_eq, decide_eq_false_iff_not] at h) <;> simp (disch := omega) only [Sh.out h, go_sem, seval, reduceCtorEq, ↓reduceIte]
  · rw [beforeB, if_pos h]
  · refine (seqHas_c l c a hl).use ?_
    simp (disch := omega) only [go_sem, seval, reduceCtorEq, ↓reduceIte]
    generalize hq : fIx (fun v => decide (v.order = b)) l = q at hlt h ⊢
    cases h2 : hasO l a with
    | false =>
      simp (disch := omega) only [go_sem, seval, reduceCtorEq, ↓reduceIte]
      rw [beforeB, hq, if_neg h, h2]; rfl
    | true =>
      simp (disch := omega) only [List.take_length, go_sem, seval, reduceCtorEq, ↓reduceIte]
      refine (seqHas_c (l.drop q.toNat) _ a (by simp; omega)).use ?_
      simp (disch := omega) only [go_sem, seval, reduceCtorEq, ↓reduceIte]
      rw [beforeB, hq, if_neg h, h2]; rfl
/-- the visits of an order ascend in a list -/
def ascB (l : List Vis) : Int → List Vis → Bool
  | _, [] => true
  | last, w :: r => decide (last < vIx l w) && ascB l (vIx l w) r
def pairB (os : List Ord) (l : List Vis) (v : Vis) : Bool := decide (0 ≤ vIx (visO os v.order.toNat) v) && ascB l (-1) (visO os v.order.toNat)
theorem seqPaired_c (x : Inst) (l : List Vis) (c : Bool) (hl : l.length ≤ 1048576) (ho : x.orders.length ≤ 1048576) (hv : ∀ v ∈ l, 0 ≤ v.order ∧ v.order < x.orders.length) :
    ACalls Tryz.prog 170 [.p (eInst x), .p (.list c (l.map eVis))] [] fun y H' => y = .p (.bool (l.all (pairB x.orders l))) ∧ H' = [] := by
  refine acalls_pure (fn := Tryz.f170) Tryz.func170 rfl isF170 ?_
  simp (disch := omega) only [Tryz.f170, go_sem, seval, reduceCtorEq, ↓reduceIte]
  refine awp_for [1, 2, 12, 13] (fun k : Nat => [(14, .p (.int .i64 k))]) (fun _ => [instO x]) (fun k => k ≤ l.length ∧ ∀ j, j < k → pairB x.orders l (nth l j) = true) (fun k => l.length - k) 0 (by simp) (Weak.mk ?_) ?_
  · simp (disch := omega) only [instO, go_sem, seval, reduceCtorEq, ↓reduceIte]
  · rintro k ⟨hk, hno⟩
    simp (disch := omega) only [instO, go_sem, seval, reduceCtorEq, ↓reduceIte]
    refine acond_b (fun h => ?_) (fun h => ?_) <;> (try simp only [decide_eq_true_eq, decide_eq_false_iff_not] at h) <;> simp (disch := omega) only [Sh.out h, go_sem, seval, reduceCtorEq, ↓reduceIte]
    · have hk2 : k < l.length := by omega
      obtain ⟨v1, v2⟩ := hv _ (nth_mem hk2)
      have hbad : pairB x.orders l (nth l k) = false → l.all (pairB x.orders l) = false := fun h4 => by
        rw [List.all_eq_false]; exact ⟨nth l k, nth_mem hk2, by rw [h4]; simp⟩
      obtain ⟨i, hi⟩ : ∃ i : Nat, (nth l k).order = (i : Int) := ⟨(nth l k).order.toNat, by omega⟩
      have hp : pairB x.orders l (nth l k) = (decide (0 ≤ vIx (visO x.orders i) (nth l k)) && ascB l (-1) (visO x.orders i)) := by rw [pairB, hi]; rfl
      rw [hi] at v1 v2
      simp (disch := omega) only [hi, go_sem, seval, reduceCtorEq, ↓reduceIte]
      refine (visits_c x.orders x.orders_c i (by omega) ho).use ?_
      simp (disch := omega) only [go_sem, seval, reduceCtorEq, ↓reduceIte]
      have hvl := visO_len x.orders i
      have hcon := contains16_c (visO x.orders i) false (nth l k) (by omega)
      rw [eVis_eq, hi] at hcon
      refine (hcon).use ?_
      simp (disch := omega) only [go_sem, seval, reduceCtorEq, ↓reduceIte]
      refine acond_b (fun h2 => ?_) (fun h2 => ?_) <;> (try simp only [decide_eq_true_eq, decide_eq_false_iff_not] at h2) <;> simp (disch := omega) only [Sh.out h2, go_sem, seval, reduceCtorEq, ↓reduceIte]
      · rw [hbad (by rw [hp]; simp; intro h3; omega)]
      · have h2' : 0 ≤ vIx (visO x.orders i) (nth l k) := by omega
        generalize hown : visO x.orders i = own at hvl hp h2' ⊢
        have hp2 : pairB x.orders l (nth l k) = ascB l (-1) own := by rw [hp]; simp [h2']
        refine awp_for [1, 2, 12, 13, 14, 27, 28] (fun q : Nat × Int => [(8, .p (.int .i64 q.2)), (29, .p (.int .i64 q.1))]) (fun _ => [instO x, .cells [.p (.int .i64 (i : Int)), .p (.bool (nth l k).drp)]]) (fun q => q.1 ≤ own.length ∧ ascB l (-1) own = ascB l q.2 (own.drop q.1)) (fun q => own.length - q.1) (0, -1) (by simp) (Weak.mk ?_) ?_
        · simp (disch := omega) only [instO, go_sem, seval, reduceCtorEq, ↓reduceIte]
        · rintro ⟨j, last⟩ ⟨hj, ha⟩
          simp only at hj ha
          simp (disch := omega) only [instO, go_sem, seval, reduceCtorEq, ↓reduceIte]
          refine acond_b (fun h3 => ?_) (fun h3 => ?_) <;> (try simp only [decide_eq_true_eq, decide_eq_false_iff_not] at h3) <;> simp (disch := omega) only [Sh.out h3, go_sem, seval, reduceCtorEq, ↓reduceIte]
          · have hj2 : j < own.length := by omega
            have hd : own.drop j = nth own j :: own.drop (j + 1) := by rw [List.drop_eq_getElem_cons hj2, nth_get hj2]
            rw [hd] at ha
            refine (place_c l c (nth own j) hl).use ?_
            simp (disch := omega) only [go_sem, seval, reduceCtorEq, ↓reduceIte]
            refine acond_b (fun h4 => ?_) (fun h4 => ?_) <;> (try simp only [decide_eq_true_eq, decide_eq_false_iff_not] at h4) <;> simp (disch := omega) only [Sh.out h4, go_sem, seval, reduceCtorEq, ↓reduceIte]
            · rw [hbad (by rw [hp2, ha, ascB]; simp; intro h5; omega)]
            · have h5 : last < vIx l (nth own j) := by omega
              exact ⟨(j + 1, vIx l (nth own j)), ⟨by simp only; omega, by rw [ha, ascB]; simp [h5]⟩, by simp only; omega, Weak.mk (by simp (disch := omega) only [instO, go_sem, seval, reduceCtorEq, ↓reduceIte])⟩
          · have hjl : j = own.length := by omega
            subst hjl
            exact ⟨k + 1, ⟨by omega, upto_iff.2 ⟨hno, by rw [hp2, ha]; simp [ascB]⟩⟩, by omega, Weak.mk (by simp (disch := omega) only [instO, go_sem, seval, reduceCtorEq, ↓reduceIte])⟩
    · have hkl : k = l.length := by omega
      subst hkl
      have : l.all (pairB x.orders l) = true := by
        rw [List.all_eq_true]
        intro v hv
        obtain ⟨j, hj, rfl⟩ := List.mem_iff_getElem.1 hv
        rw [← nth_get hj]; exact hno j hj
      rw [this]
def rteO (r : Rte) : AM.Obj := .cells [.p (.int .i64 r.typ), .p (.int .i64 r.start), .p (.list r.rests_c (r.rests.map eB)), .p (.list r.visits_c (r.visits.map eVis))]
def outB (x : Inst) (v : Vis) : Bool := !decide (0 ≤ v.order ∧ v.order < (x.orders.length : Int))
theorem check1_c (x : Inst) (r : Rte) (v : Vis) (ho : x.orders.length ≤ 1048576) : ACalls Tryz.prog 167 [.p (eVis v), .ptr 0 0] [instO x, rteO r] fun y H' => y = .p (.bool (outB x v)) ∧ H' = [instO x, rteO r] := by
  refine acalls_weak [] (fn := Tryz.f167) Tryz.func167 rfl isF167 ?_
  simp (disch := omega) only [Tryz.f167, instO, rteO, go_sem, seval, reduceCtorEq, ↓reduceIte]
  refine aguard_f (fun h => ?_) (fun h => ?_) <;> (try simp only [decide_eq_true_eq, decide_eq_false_iff_not] at h) <;> simp (disch := omega) only [Sh.out h, go_sem, seval, reduceCtorEq, ↓reduceIte]
  · have e : outB x v = true := by
      have : ¬ (0 ≤ v.order) := by omega
      simp [outB, this]
    rw [e]
    exact ⟨_, _, Weak.mk (by simp (disch := omega) only [instO, rteO, go_sem, seval, reduceCtorEq, ↓reduceIte]), rfl, rfl⟩
  · have e : outB x v = decide ((x.orders.length : Int) ≤ v.order) := by
      have h0 : 0 ≤ v.order := by omega
      rw [Bool.eq_iff_iff]; simp [outB, h0]
    rw [e]
    exact ⟨_, _, Weak.mk (by simp (disch := omega) only [instO, rteO, go_sem, seval, reduceCtorEq, ↓reduceIte]), rfl, rfl⟩
theorem check2_c (x : Inst) (r : Rte) (v : Vis) (ho : x.orders.length ≤ 1048576) (h1 : 0 ≤ v.order) (h2 : v.order < x.orders.length) : ACalls Tryz.prog 168 [.p (eVis v), .ptr 0 0] [instO x, rteO r] fun y H' => y = .p (.bool (nth x.orders v.order.toNat).off) ∧ H' = [instO x, rteO r] := by
  have h3 : v.order.toNat < x.orders.length := by omega
  refine acalls_weak [] (fn := Tryz.f168) Tryz.func168 rfl isF168 ?_
  simp (disch := omega) only [Tryz.f168, instO, rteO, elt_map, go_sem, seval, reduceCtorEq, ↓reduceIte]
  exact ⟨_, _, Weak.mk (by simp (disch := omega) only [instO, rteO, go_sem, seval, reduceCtorEq, ↓reduceIte]), rfl, rfl⟩
/-- the visits of a route, checked -/
def seqChk (x : Inst) (l : List Vis) : Int :=
  if l.length = 0 ∨ l.any (outB x) = true then 2
  else if (l.any fun v => (nth x.orders v.order.toNat).off) = true then 9
  else if twiceB l = true then 6
  else if l.all (pairB x.orders l) = false then 19
  else if (x.apart.any fun p => hasO l p.1 && hasO l p.2) = true then 20
  else if (x.before.any fun p => !beforeB l p.1 p.2) = true then 21
  else 0
theorem seqCheck_c (x : Inst) (r : Rte) (ho : x.orders.length ≤ 1048576) (hl : r.visits.length ≤ 1048576) (hap : x.apart.length ≤ 1048576) (hbe : x.before.length ≤ 1048576) :
    ACalls Tryz.prog 107 [.p (eInst x), .p (eRte r)] [] fun y H' => y = .p (.int .i64 (seqChk x r.visits)) ∧ H' = [] := by
  refine acalls_pure (fn := Tryz.f107) Tryz.func107 rfl isF107 ?_
  simp (disch := omega) only [Tryz.f107, go_sem, seval, reduceCtorEq, ↓reduceIte]
  refine aguard_f (fun h0 => ?_) (fun h0 => ?_) <;> (try simp only [decide_eq_true_eq, decide_eq_false_iff_not] at h0) <;> simp (disch := omega) only [Sh.out h0, go_sem, seval, reduceCtorEq, ↓reduceIte]
  · have : r.visits.length = 0 := by omega
    simp [seqChk, this]
  · have h00 : ¬ r.visits.length = 0 := by omega
    refine (containsFunc_c r.visits r.visits_c 167 [.ptr 0 0] [instO x, rteO r] (outB x) hl (by simp (disch := omega) only [instO, rteO, go_sem, seval, reduceCtorEq, ↓reduceIte]) (by rfl) (fun v _ => check1_c x r v ho)).useH ?_
    simp (disch := omega) only [instO, rteO, go_sem, seval, reduceCtorEq, ↓reduceIte]
    refine acond_b (fun h1 => ?_) (fun h1 => ?_) <;> (try simp only [decide_eq_true_eq, decide_eq_false_iff_not] at h1) <;> simp (disch := omega) only [Sh.out h1, go_sem, seval, reduceCtorEq, ↓reduceIte]
    · rw [seqChk, if_pos (.inr h1)]
    · have h1' : r.visits.any (outB x) = false := by simpa using h1
      have c1 : ¬ (r.visits.length = 0 ∨ r.visits.any (outB x) = true) := by rw [h1']; simp; simpa using h00
      have hin : ∀ v ∈ r.visits, 0 ≤ v.order ∧ v.order < x.orders.length := fun v hv => by
        rw [List.any_eq_false] at h1'
        simpa [outB] using h1' v hv
      refine (containsFunc_c r.visits r.visits_c 168 [.ptr 0 0] [instO x, rteO r] (fun v => (nth x.orders v.order.toNat).off) hl (by simp (disch := omega) only [instO, rteO, go_sem, seval, reduceCtorEq, ↓reduceIte]) (by rfl) (fun v hv => check2_c x r v ho (hin v hv).1 (hin v hv).2)).useH ?_
      simp (disch := omega) only [instO, rteO, go_sem, seval, reduceCtorEq, ↓reduceIte]
      refine acond_b (fun h2 => ?_) (fun h2 => ?_) <;> (try simp only [decide_eq_true_eq, decide_eq_false_iff_not] at h2) <;> simp (disch := omega) only [Sh.out h2, go_sem, seval, reduceCtorEq, ↓reduceIte]
      · rw [seqChk, if_neg c1, if_pos h2]
      · refine (twice_c r.visits r.visits_c hl).use ?_
        simp (disch := omega) only [go_sem, seval, reduceCtorEq, ↓reduceIte]
        refine acond_b (fun h3 => ?_) (fun h3 => ?_) <;> (try simp only [decide_eq_true_eq, decide_eq_false_iff_not] at h3) <;> simp (disch := omega) only [Sh.out h3, go_sem, seval, reduceCtorEq, ↓reduceIte]
        · rw [seqChk, if_neg c1, if_neg (by simpa using h2), if_pos h3]
        · refine (seqPaired_c x r.visits r.visits_c hl ho hin).use ?_
          simp (disch := omega) only [go_sem, seval, reduceCtorEq, ↓reduceIte]
          refine acond_b (fun h4 => ?_) (fun h4 => ?_) <;> (try simp only [decide_eq_true_eq, decide_eq_false_iff_not] at h4) <;> simp (disch := omega) only [Sh.out h4, go_sem, seval, reduceCtorEq, ↓reduceIte]
          · have h4' : r.visits.all (pairB x.orders r.visits) = false := by simpa using h4
            rw [seqChk, if_neg c1, if_neg (by simpa using h2), if_neg (by simpa using h3), if_pos h4']
          · have h4' : r.visits.all (pairB x.orders r.visits) = true := by simpa using h4
            have hc : seqChk x r.visits = if (x.apart.any fun p => hasO r.visits p.1 && hasO r.visits p.2) = true then 20 else if (x.before.any fun p => !beforeB r.visits p.1 p.2) = true then 21 else 0 := by
              rw [seqChk, if_neg c1, if_neg (by simpa using h2), if_neg (by simpa using h3), if_neg (by rw [h4']; simp)]
            clear h4 h4' h3 h2 c1 h1' h1 h0
            refine awp_for [2, 5, 33, 34] (fun k : Nat => [(35, .p (.int .i64 k))]) (fun _ => [instO x, rteO r]) (fun k => k ≤ x.apart.length ∧ ∀ j, j < k → (hasO r.visits (nth x.apart j).1 && hasO r.visits (nth x.apart j).2) = false) (fun k => x.apart.length - k) 0 (by simp) (Weak.mk ?_) ?_
            · simp (disch := omega) only [instO, rteO, go_sem, seval, reduceCtorEq, ↓reduceIte]
            · rintro k ⟨hk, hno⟩
              simp (disch := omega) only [instO, rteO, go_sem, seval, reduceCtorEq, ↓reduceIte]
              refine acond_b (fun h => ?_) (fun h => ?_) <;> (try simp only [decide_eq_true_eq, decide_eq_false_iff_not] at h) <;> simp (disch := omega) only [Sh.out h, go_sem, seval, reduceCtorEq, ↓reduceIte]
              · have hk2 : k < x.apart.length := by omega
                refine (seqHas_c r.visits r.visits_c (nth x.apart k).1 hl).use ?_
                simp (disch := omega) only [go_sem, seval, reduceCtorEq, ↓reduceIte]
                refine aguard_t (fun h2 => ?_) (fun h2 => ?_) <;> (try simp only [decide_eq_true_eq, decide_eq_false_iff_not] at h2) <;> simp (disch := omega) only [Sh.out h2, go_sem, seval, reduceCtorEq, ↓reduceIte]
                · refine (seqHas_c r.visits r.visits_c (nth x.apart k).2 hl).use ?_
                  simp (disch := omega) only [go_sem, seval, reduceCtorEq, ↓reduceIte]
                  refine acond_b (fun h3 => ?_) (fun h3 => ?_) <;> (try simp only [decide_eq_true_eq, decide_eq_false_iff_not] at h3) <;> simp (disch := omega) only [Sh.out h3, go_sem, seval, reduceCtorEq, ↓reduceIte]
                  · rw [hc, if_pos (any_yes hk2 (by rw [h2, h3]; rfl))]
                  · exact ⟨k + 1, ⟨by omega, upto_iff.2 ⟨hno, by simp [h2]; simpa using h3⟩⟩, by omega, Weak.mk (by simp (disch := omega) only [instO, rteO, go_sem, seval, reduceCtorEq, ↓reduceIte])⟩
                · exact ⟨k + 1, ⟨by omega, upto_iff.2 ⟨hno, by simp [h2]⟩⟩, by omega, Weak.mk (by simp (disch := omega) only [instO, rteO, go_sem, seval, reduceCtorEq, ↓reduceIte])⟩
              · have hkl : k = x.apart.length := by omega
                subst hkl
                rw [hc, any_no hno]
                clear hno hk h hc
                rw [if_neg (by simp)]
                refine awp_for [5, 51, 52] (fun k : Nat => [(53, .p (.int .i64 k))]) (fun _ => [instO x, rteO r]) (fun k => k ≤ x.before.length ∧ ∀ j, j < k → (!beforeB r.visits (nth x.before j).1 (nth x.before j).2) = false) (fun k => x.before.length - k) 0 (by simp) (Weak.mk ?_) ?_
                · simp (disch := omega) only [instO, rteO, go_sem, seval, reduceCtorEq, ↓reduceIte]
                · rintro k ⟨hk, hno⟩
                  simp (disch := omega) only [instO, rteO, go_sem, seval, reduceCtorEq, ↓reduceIte]
                  refine acond_b (fun h => ?_) (fun h => ?_) <;> (try simp only [decide_eq_true_eq, decide_eq_false_iff_not] at h) <;> simp (disch := omega) only [Sh.out h, go_sem, seval, reduceCtorEq, ↓reduceIte]
                  · have hk2 : k < x.before.length := by omega
                    refine (seqBefore_c r.visits r.visits_c (nth x.before k).1 (nth x.before k).2 hl).use ?_
                    simp (disch := omega) only [go_sem, seval, reduceCtorEq, ↓reduceIte]
                    refine acond_b (fun h2 => ?_) (fun h2 => ?_) <;> (try simp only [decide_eq_true_eq, decide_eq_false_iff_not] at h2) <;> simp (disch := omega) only [Sh.out h2, go_sem, seval, reduceCtorEq, ↓reduceIte]
                    · have h3 : (!beforeB r.visits (nth x.before k).1 (nth x.before k).2) = true := by simpa using h2
                      rw [if_pos (any_yes hk2 h3)]
                    · have h3 : (!beforeB r.visits (nth x.before k).1 (nth x.before k).2) = false := by simpa using h2
                      exact ⟨k + 1, ⟨by omega, upto_iff.2 ⟨hno, h3⟩⟩, by omega, Weak.mk (by simp (disch := omega) only [instO, rteO, go_sem, seval, reduceCtorEq, ↓reduceIte])⟩
                  · have hkl : k = x.before.length := by omega
                    subst hkl
                    rw [any_no hno]
                    rfl
end Go.Proofs.YtccjopdlbolnhaaGreatDoor.K
set_option linter.unusedVariables false
set_option linter.unusedSimpArgs false
namespace Go.Proofs.YtccjopdlbolnhaaGreatDoor.K
open Go Go.AM Go.Proofs
set_option maxRecDepth 8000
set_option maxHeartbeats 8000000
@[go_sem] theorem wkV_tupe {H : List AM.Obj} {n cs cs'} : wkV H n (.tup cs) (.tup cs') = (cs' = cs ∧ refBs n cs = true) := by simp [wkV, frz, refB]
@[go_sem] theorem resOne_two {a b : V} : resOne [a, b] = .tup [a, b] := Eq.trans rfl rfl
/-- the set of the orders of visits -/
def ordS (l : List Vis) : Nat := l.foldl (fun s v => s ||| pw v.order.toNat) 0
def inS (v : Vis) : Bool := decide (0 ≤ v.order ∧ v.order ≤ 62)
theorem ordS_succ {l : List Vis} {k : Nat} (hk : k < l.length) : ordS (l.take (k + 1)) = ordS (l.take k) ||| pw (nth l k).order.toNat := by
  rw [List.take_succ_eq_append_getElem hk, ordS, List.foldl_append, nth_get hk]; rfl
theorem ordS_lt : ∀ (k : Nat) {l : List Vis}, k ≤ l.length → (∀ v ∈ l.take k, inS v = true) → ordS (l.take k) < 9223372036854775808
  | 0, l, _, _ => by simp [ordS]
  | k + 1, l, hk, h => by
    have hk2 : k < l.length := by omega
    have ih := ordS_lt k (l := l) (by omega) fun v hv => h v (List.take_subset_take_left l (by omega) hv)
    have hv := h (nth l k) (by rw [nth_get hk2]; exact List.mem_iff_getElem.2 ⟨k, by simp; omega, by simp⟩)
    simp only [inS, decide_eq_true_eq] at hv
    have h2 : pw (nth l k).order.toNat ≤ pw 62 := pw_le (by omega)
    have h3 := pw_62
    rw [ordS_succ hk2]
    exact Nat.or_lt_two_pow (n := 63) (by omega) (by omega)
def ordR (l : List Vis) : Int × Int := if l.all inS = true then (((ordS l : Nat) : Int), 0) else (0, 2)
theorem seqOrders_c (r : Rte) (hl : r.visits.length ≤ 1048576) : ACalls Tryz.prog 112 [.p (eRte r)] [] fun x H' => x = .tup [.p (.int .i64 (ordR r.visits).1), .p (.int .i64 (ordR r.visits).2)] ∧ H' = [] := by
  refine acalls_weak [] (fn := Tryz.f112) Tryz.func112 rfl isF112 ?_
  simp (disch := omega) only [Tryz.f112, go_sem, seval, reduceCtorEq, ↓reduceIte]
  refine awp_for [8, 9] (fun k : Nat => [(4, .p (.int .i64 (ordS (r.visits.take k) : Nat))), (10, .p (.int .i64 k))]) (fun _ => [rteO r]) (fun k => k ≤ r.visits.length ∧ ∀ j, j < k → inS (nth r.visits j) = true) (fun k => r.visits.length - k) 0 (by simp) (Weak.mk ?_) ?_
  · simp (disch := omega) only [rteO, ordS, List.take_zero, List.foldl_nil, go_sem, seval, reduceCtorEq, ↓reduceIte]
  · rintro k ⟨hk, hno⟩
    have hlt := ordS_lt k hk fun v hv => by
      obtain ⟨j, hj, rfl⟩ := List.mem_iff_getElem.1 hv
      simp at hj
      rw [List.getElem_take, ← nth_get (by omega)]
      exact hno j (by omega)
    simp (disch := omega) only [rteO, go_sem, seval, reduceCtorEq, ↓reduceIte]
    refine acond_b (fun h => ?_) (fun h => ?_) <;> (try simp only [decide_eq_true_eq, decide_eq_false_iff_not] at h) <;> simp (disch := omega) only [Sh.out h, go_sem, seval, reduceCtorEq, ↓reduceIte]
    · have hk2 : k < r.visits.length := by omega
      have hbad : inS (nth r.visits k) = false → ordR r.visits = (0, 2) := fun h4 => by
        have : r.visits.all inS = false := by rw [List.all_eq_false]; exact ⟨nth r.visits k, nth_mem hk2, by rw [h4]; simp⟩
        simp [ordR, this]
      have hs := ordS_succ hk2
      have hp : (nth r.visits k).order ≤ 62 → pw (nth r.visits k).order.toNat ≤ 4611686018427387904 := fun h => by rw [← pw_62]; exact pw_le (by omega)
      refine aguard_f (fun h1 => ?_) (fun h1 => ?_) <;> (try simp only [decide_eq_true_eq, decide_eq_false_iff_not] at h1) <;> simp (disch := omega) only [Sh.out h1, go_sem, seval, reduceCtorEq, ↓reduceIte]
      · have e := hbad (by simp [inS]; omega)
        rw [e]
        exact ⟨_, _, Weak.mk (by simp (disch := omega) only [go_sem, seval, reduceCtorEq, ↓reduceIte]), rfl, rfl⟩
      · refine acond_b (fun h2 => ?_) (fun h2 => ?_) <;> (try simp only [decide_eq_true_eq, decide_eq_false_iff_not] at h2) <;> simp (disch := omega) only [Sh.out h2, go_sem, seval, reduceCtorEq, ↓reduceIte]
        · have e := hbad (by simp [inS]; omega)
          rw [e]
          exact ⟨_, _, Weak.mk (by simp (disch := omega) only [go_sem, seval, reduceCtorEq, ↓reduceIte]), rfl, rfl⟩
        · exact ⟨k + 1, ⟨by omega, upto_iff.2 ⟨hno, by simp [inS]; omega⟩⟩, by omega, Weak.mk (by simp (disch := omega) only [rteO, hs, go_sem, seval, reduceCtorEq, ↓reduceIte])⟩
    · have hkl : k = r.visits.length := by omega
      subst hkl
      have : r.visits.all inS = true := by
        rw [List.all_eq_true]
        intro v hv
        obtain ⟨j, hj, rfl⟩ := List.mem_iff_getElem.1 hv
        rw [← nth_get hj]; exact hno j hj
      have e : ordR r.visits = (((ordS r.visits : Nat) : Int), 0) := by simp [ordR, this]
      rw [e, List.take_length]
      exact ⟨_, _, Weak.mk (by simp (disch := omega) only [go_sem, seval, reduceCtorEq, ↓reduceIte]), rfl, rfl⟩
def cmpI (a b : Int) : Int := if a < b then -1 else if b < a then 1 else 0
theorem isNaN_c (a : Int) : ACalls Tryz.prog 84 [.p (.int .i64 a)] [] fun x H' => x = .p (.bool false) ∧ H' = [] := by
  refine acalls_pure (fn := Tryz.f84) Tryz.func84 rfl isF84 ?_
  simp (disch := omega) only [Tryz.f84, go_sem, seval, reduceCtorEq, ↓reduceIte]
  try simp
theorem cmp_c (a b : Int) : ACalls Tryz.prog 53 [.p (.int .i64 a), .p (.int .i64 b)] [] fun x H' => x = .p (.int .i64 (cmpI a b)) ∧ H' = [] := by
  refine acalls_pure (fn := Tryz.f53) Tryz.func53 rfl isF53 ?_
  simp (disch := omega) only [Tryz.f53, go_sem, seval, reduceCtorEq, ↓reduceIte]
  refine (isNaN_c a).use ?_
  simp (disch := omega) only [go_sem, seval, reduceCtorEq, ↓reduceIte]
  refine (isNaN_c b).use ?_
  simp (disch := omega) only [go_sem, seval, reduceCtorEq, ↓reduceIte]
  refine acond_b (fun h => ?_) (fun h => ?_) <;> (try simp only [decide_eq_true_eq, decide_eq_false_iff_not] at h) <;> simp (disch := omega) only [Sh.out h, go_sem, seval, reduceCtorEq, ↓reduceIte]
  · simp [cmpI, h]
  · refine acond_b (fun h2 => ?_) (fun h2 => ?_) <;> (try simp only [decide_eq_true_eq, decide_eq_false_iff_not] at h2) <;> simp (disch := omega) only [Sh.out h2, go_sem, seval, reduceCtorEq, ↓reduceIte]
    · simp [cmpI, h, h2]
    · simp [cmpI, h, h2]
end Go.Proofs.YtccjopdlbolnhaaGreatDoor.K
set_option linter.unusedVariables false
set_option linter.unusedSimpArgs false
namespace Go.Proofs.YtccjopdlbolnhaaGreatDoor.K
open Go Go.AM Go.Proofs
set_option maxRecDepth 8000
set_option maxHeartbeats 8000000
def cmpL : List Int → List Int → Int
  | [], [] => 0
  | [], _ :: _ => -1
  | _ :: _, [] => 1
  | x :: a, y :: b => if x < y then -1 else if y < x then 1 else cmpL a b
theorem cmpL_step {a b : List Int} {k : Nat} (ha : k < a.length) (hb : k < b.length) : cmpL (a.drop k) (b.drop k) = if nth a k < nth b k then -1 else if nth b k < nth a k then 1 else cmpL (a.drop (k + 1)) (b.drop (k + 1)) := by
  rw [List.drop_eq_getElem_cons ha, List.drop_eq_getElem_cons hb, cmpL, nth_get ha, nth_get hb]
theorem cmpL_end {a b : List Int} {k : Nat} (h : k = a.length ∨ k = b.length) (ha : k ≤ a.length) (hb : k ≤ b.length) : cmpL (a.drop k) (b.drop k) = if a.length < b.length then -1 else if b.length < a.length then 1 else 0 := by
  by_cases h1 : k < a.length
  · have : k = b.length := by omega
    subst this
    rw [List.drop_length, List.drop_eq_getElem_cons h1, cmpL]
    have : ¬ a.length < b.length := by omega
    simp [this, h1]
  · have h1 : k = a.length := by omega
    by_cases h2 : k < b.length
    · subst h1
      rw [List.drop_length, List.drop_eq_getElem_cons h2, cmpL]
      simp [h2]
    · have h2 : k = b.length := by omega
      have h3 : a.drop k = [] := by rw [h1]; simp
      have h4 : b.drop k = [] := by rw [h2]; simp
      rw [h3, h4, cmpL]
      have : ¬ a.length < b.length := by omega
      have : ¬ b.length < a.length := by omega
      simp [*]
theorem slCompare_c (a b : List Int) (c d : Bool) (ha : a.length ≤ 1048576) (hb : b.length ≤ 1048576) : ACalls Tryz.prog 55 [.p (.list c (a.map eI)), .p (.list d (b.map eI))] [] fun x H' => x = .p (.int .i64 (cmpL a b)) ∧ H' = [] := by
  refine acalls_pure (fn := Tryz.f55) Tryz.func55 rfl isF55 ?_
  simp (disch := omega) only [Tryz.f55, go_sem, seval, reduceCtorEq, ↓reduceIte]
  refine awp_for [0, 1, 9, 10] (fun k : Nat => [(11, .p (.int .i64 k))]) (fun _ => []) (fun k => (k ≤ a.length ∧ k ≤ b.length) ∧ cmpL a b = cmpL (a.drop k) (b.drop k)) (fun k => a.length - k) 0 (by simp) (Weak.mk ?_) ?_
  · simp (disch := omega) only [go_sem, seval, reduceCtorEq, ↓reduceIte]
  · rintro k ⟨⟨hk1, hk2⟩, hc⟩
    simp (disch := omega) only [go_sem, seval, reduceCtorEq, ↓reduceIte]
    refine acond_b (fun h1 => ?_) (fun h1 => ?_) <;> (try simp only [decide_eq_true_eq, decide_eq_false_iff_not] at h1) <;> simp (disch := omega) only [Sh.out h1, go_sem, seval, reduceCtorEq, ↓reduceIte]
    · have h1' : k < a.length := by omega
      refine acond_b (fun h2 => ?_) (fun h2 => ?_) <;> (try simp only [decide_eq_true_eq, decide_eq_false_iff_not] at h2) <;> simp (disch := omega) only [Sh.out h2, go_sem, seval, reduceCtorEq, ↓reduceIte]
      · have hkb : k = b.length := by omega
        rw [hc, cmpL_end (.inr hkb) hk1 hk2, if_neg (by omega), if_pos (by omega)]
      · have h2' : k < b.length := by omega
        rw [cmpL_step h1' h2'] at hc
        refine (cmp_c (nth a k) (nth b k)).use ?_
        simp (disch := omega) only [go_sem, seval, reduceCtorEq, ↓reduceIte]
        unfold cmpI
        refine acond_b (fun h3 => ?_) (fun h3 => ?_) <;> (try simp only [decide_eq_true_eq, decide_eq_false_iff_not] at h3) <;> simp (disch := omega) only [Sh.out h3, go_sem, seval, reduceCtorEq, ↓reduceIte]
        · rw [hc]
          by_cases h4 : nth a k < nth b k
          · simp only [if_pos h4]
          · by_cases h5 : nth b k < nth a k
            · simp only [if_neg h4, if_pos h5]
            · exact absurd (by rw [if_neg h4, if_neg h5]) h3
        · have h4 : ¬ nth a k < nth b k := fun h => by rw [if_pos h] at h3; exact h3 (by decide)
          have h5 : ¬ nth b k < nth a k := fun h => by rw [if_neg h4, if_pos h] at h3; exact h3 (by decide)
          rw [if_neg h4, if_neg h5] at hc
          exact ⟨k + 1, ⟨⟨by omega, by omega⟩, hc⟩, by omega, Weak.mk (by simp (disch := omega) only [go_sem, seval, reduceCtorEq, ↓reduceIte])⟩
    · have hka : k = a.length := by omega
      refine acond_b (fun h2 => ?_) (fun h2 => ?_) <;> (try simp only [decide_eq_true_eq, decide_eq_false_iff_not] at h2) <;> simp (disch := omega) only [Sh.out h2, go_sem, seval, reduceCtorEq, ↓reduceIte]
      · rw [hc, cmpL_end (.inl hka) hk1 hk2, if_pos (by omega)]
      · rw [hc, cmpL_end (.inl hka) hk1 hk2, if_neg (by omega), if_neg (by omega)]
theorem rCompare_c (a b : List Int) (c d : Bool) (ha : a.length ≤ 1048576) (hb : b.length ≤ 1048576) : ACalls Tryz.prog 31 [.p (.list c (a.map eI)), .p (.list d (b.map eI))] [] fun x H' => x = .p (.int .i64 (cmpL a b)) ∧ H' = [] := by
  refine acalls_pure (fn := Tryz.f31) Tryz.func31 rfl isF31 ?_
  simp (disch := omega) only [Tryz.f31, go_sem, seval, reduceCtorEq, ↓reduceIte]
  refine awp_for [0, 1] (fun k : Nat => [(5, .p (.int .i64 k))]) (fun _ => []) (fun k => (k ≤ a.length ∧ k ≤ b.length) ∧ cmpL a b = cmpL (a.drop k) (b.drop k)) (fun k => a.length - k) 0 (by simp) (Weak.mk ?_) ?_
  · simp (disch := omega) only [go_sem, seval, reduceCtorEq, ↓reduceIte]
  · rintro k ⟨⟨hk1, hk2⟩, hc⟩
    have fin : k = a.length ∨ k = b.length → cmpL a b = if a.length < b.length then -1 else if b.length < a.length then 1 else 0 := fun h => by rw [hc, cmpL_end h hk1 hk2]
    simp (disch := omega) only [go_sem, seval, reduceCtorEq, ↓reduceIte]
    refine aguard_t (fun h1 => ?_) (fun h1 => ?_) <;> (try simp only [decide_eq_true_eq, decide_eq_false_iff_not] at h1) <;> simp (disch := omega) only [Sh.out h1, go_sem, seval, reduceCtorEq, ↓reduceIte]
    · refine acond_b (fun h2 => ?_) (fun h2 => ?_) <;> (try simp only [decide_eq_true_eq, decide_eq_false_iff_not] at h2) <;> simp (disch := omega) only [Sh.out h2, go_sem, seval, reduceCtorEq, ↓reduceIte]
      · have h1' : k < a.length := by omega
        have h2' : k < b.length := by omega
        rw [cmpL_step h1' h2'] at hc
        refine awp_drawnA mixed (by kernel_rfl) (by kernel_rfl) ?_
        simp (disch := omega) only [go_sem, seval, reduceCtorEq, ↓reduceIte]
        refine acond_b (fun h3 => ?_) (fun h3 => ?_) <;> (try simp only [decide_eq_true_eq, decide_eq_false_iff_not] at h3) <;> simp (disch := omega) only [Sh.out h3, go_sem, seval, reduceCtorEq, ↓reduceIte]
        · rw [hc, if_pos h3]
        · rw [if_neg h3] at hc
          refine awp_drawnA mixed (by kernel_rfl) (by kernel_rfl) ?_
          simp (disch := omega) only [go_sem, seval, reduceCtorEq, ↓reduceIte]
          refine acond_b (fun h4 => ?_) (fun h4 => ?_) <;> (try simp only [decide_eq_true_eq, decide_eq_false_iff_not] at h4) <;> simp (disch := omega) only [Sh.out h4, go_sem, seval, reduceCtorEq, ↓reduceIte]
          · rw [hc, if_pos h4]
          · rw [if_neg h4] at hc
            exact ⟨k + 1, ⟨⟨by omega, by omega⟩, hc⟩, by omega, Weak.mk (by simp (disch := omega) only [go_sem, seval, reduceCtorEq, ↓reduceIte])⟩
      · rw [fin (.inr (by omega))]
        refine acond_b (fun h3 => ?_) (fun h3 => ?_) <;> (try simp only [decide_eq_true_eq, decide_eq_false_iff_not] at h3) <;> simp (disch := omega) only [Sh.out h3, go_sem, seval, reduceCtorEq, ↓reduceIte]
        · rw [if_pos (by omega)]
        · refine acond_b (fun h4 => ?_) (fun h4 => ?_) <;> (try simp only [decide_eq_true_eq, decide_eq_false_iff_not] at h4) <;> simp (disch := omega) only [Sh.out h4, go_sem, seval, reduceCtorEq, ↓reduceIte]
          · rw [if_neg (by omega), if_pos (by omega)]
          · rw [if_neg (by omega), if_neg (by omega)]
    · rw [fin (.inl (by omega))]
      refine acond_b (fun h3 => ?_) (fun h3 => ?_) <;> (try simp only [decide_eq_true_eq, decide_eq_false_iff_not] at h3) <;> simp (disch := omega) only [Sh.out h3, go_sem, seval, reduceCtorEq, ↓reduceIte]
      · rw [if_pos (by omega)]
      · refine acond_b (fun h4 => ?_) (fun h4 => ?_) <;> (try simp only [decide_eq_true_eq, decide_eq_false_iff_not] at h4) <;> simp (disch := omega) only [Sh.out h4, go_sem, seval, reduceCtorEq, ↓reduceIte]
        · rw [if_neg (by omega), if_pos (by omega)]
        · rw [if_neg (by omega), if_neg (by omega)]
def maxL (l : List Int) (k : Nat) : Int := (l.take k).foldl max (nth l 0)
def minL (l : List Int) (k : Nat) : Int := (l.take k).foldl min (nth l 0)
theorem maxL_succ {l : List Int} {k : Nat} (h : k < l.length) : maxL l (k + 1) = max (maxL l k) (nth l k) := by
  rw [maxL, List.take_succ_eq_append_getElem h, List.foldl_append, nth_get h]; rfl
theorem minL_succ {l : List Int} {k : Nat} (h : k < l.length) : minL l (k + 1) = min (minL l k) (nth l k) := by
  rw [minL, List.take_succ_eq_append_getElem h, List.foldl_append, nth_get h]; rfl
theorem maxL_one {l : List Int} (h : 0 < l.length) : maxL l 1 = nth l 0 := by rw [maxL_succ h]; simp [maxL]
theorem minL_one {l : List Int} (h : 0 < l.length) : minL l 1 = nth l 0 := by rw [minL_succ h]; simp [minL]
theorem mmL_rng {l : List Int} {B : Int} (h : ∀ n ∈ l, -B ≤ n ∧ n ≤ B) (h0 : 0 < l.length) : ∀ k, k ≤ l.length → (-B ≤ minL l k ∧ minL l k ≤ B) ∧ (-B ≤ maxL l k ∧ maxL l k ≤ B)
  | 0, _ => by have := h _ (nth_mem h0); simp [minL, maxL]; omega
  | k + 1, hk => by
    have ih := mmL_rng h h0 k (by omega)
    have := h _ (nth_mem (show k < l.length by omega))
    rw [minL_succ (by omega), maxL_succ (by omega)]
    omega
@[go_sem high] theorem amin_mn {k k' : IntKind} {a b : Int} : amax true [.p (.int k a), .p (.int k' b)] = some (.int k (min a b)) := by
  simp only [amax]
  by_cases h : b < a
  · simp [h]; omega
  · simp [h]; omega
@[go_sem high] theorem amax_mx2 {k k' : IntKind} {a b : Int} : amax false [.p (.int k a), .p (.int k' b)] = some (.int k (max a b)) := by
  simp only [amax]
  by_cases h : a < b
  · simp [h]; omega
  · simp [h]; omega
theorem slMax_c (l : List Int) (c : Bool) (h0 : 0 < l.length) (hl : l.length ≤ 1048576) : ACalls Tryz.prog 56 [.p (.list c (l.map eI))] [] fun x H' => x = .p (.int .i64 (maxL l l.length)) ∧ H' = [] := by
  have e1 : ¬ (l.length : Int) < 1 := by omega
  refine acalls_pure (fn := Tryz.f56) Tryz.func56 rfl isF56 ?_
  simp (disch := omega) only [Tryz.f56, e1, go_sem, seval, reduceCtorEq, ↓reduceIte]
  refine awp_for [0] (fun k : Nat => [(3, .p (.int .i64 (maxL l k))), (4, .p (.int .i64 k))]) (fun _ => []) (fun k => k ≤ l.length) (fun k => l.length - k) 1 (by omega) (Weak.mk ?_) ?_
  · simp (disch := omega) only [maxL_one h0, go_sem, seval, reduceCtorEq, ↓reduceIte]
  · intro k hk
    simp (disch := omega) only [go_sem, seval, reduceCtorEq, ↓reduceIte]
    refine acond_b (fun h1 => ?_) (fun h1 => ?_) <;> (try simp only [decide_eq_true_eq, decide_eq_false_iff_not] at h1) <;> simp (disch := omega) only [Sh.out h1, go_sem, seval, reduceCtorEq, ↓reduceIte]
    · exact ⟨k + 1, by omega, by omega, Weak.mk (by simp (disch := omega) only [maxL_succ (show k < l.length by omega), go_sem, seval, reduceCtorEq, ↓reduceIte])⟩
    · have : k = l.length := by omega
      subst this
      rfl
theorem slMin_c (l : List Int) (c : Bool) (h0 : 0 < l.length) (hl : l.length ≤ 1048576) : ACalls Tryz.prog 57 [.p (.list c (l.map eI))] [] fun x H' => x = .p (.int .i64 (minL l l.length)) ∧ H' = [] := by
  have e1 : ¬ (l.length : Int) < 1 := by omega
  refine acalls_pure (fn := Tryz.f57) Tryz.func57 rfl isF57 ?_
  simp (disch := omega) only [Tryz.f57, e1, go_sem, seval, reduceCtorEq, ↓reduceIte]
  refine awp_for [0] (fun k : Nat => [(3, .p (.int .i64 (minL l k))), (4, .p (.int .i64 k))]) (fun _ => []) (fun k => k ≤ l.length) (fun k => l.length - k) 1 (by omega) (Weak.mk ?_) ?_
  · simp (disch := omega) only [minL_one h0, go_sem, seval, reduceCtorEq, ↓reduceIte]
  · intro k hk
    simp (disch := omega) only [go_sem, seval, reduceCtorEq, ↓reduceIte]
    refine acond_b (fun h1 => ?_) (fun h1 => ?_) <;> (try simp only [decide_eq_true_eq, decide_eq_false_iff_not] at h1) <;> simp (disch := omega) only [Sh.out h1, go_sem, seval, reduceCtorEq, ↓reduceIte]
    · exact ⟨k + 1, by omega, by omega, Weak.mk (by simp (disch := omega) only [minL_succ (show k < l.length by omega), go_sem, seval, reduceCtorEq, ↓reduceIte])⟩
    · have : k = l.length := by omega
      subst this
      rfl
def sprL (l : List Int) : Int := if l.length = 0 then 0 else maxL l l.length - minL l l.length
theorem spread_c (l : List Int) (c : Bool) (hl : l.length ≤ 1048576) (h : ∀ n ∈ l, -1152921504606846976 ≤ n ∧ n ≤ 1152921504606846976) : ACalls Tryz.prog 32 [.p (.list c (l.map eI))] [] fun x H' => x = .p (.int .i64 (sprL l)) ∧ H' = [] := by
  refine acalls_pure (fn := Tryz.f32) Tryz.func32 rfl isF32 ?_
  simp (disch := omega) only [Tryz.f32, go_sem, seval, reduceCtorEq, ↓reduceIte]
  refine acond_b (fun h1 => ?_) (fun h1 => ?_) <;> (try simp only [decide_eq_true_eq, decide_eq_false_iff_not] at h1) <;> simp (disch := omega) only [Sh.out h1, go_sem, seval, reduceCtorEq, ↓reduceIte]
  · rw [sprL, if_pos (by omega)]
  · have h0 : 0 < l.length := by omega
    have hr := mmL_rng h h0 l.length (Nat.le_refl _)
    refine (slMax_c l c h0 hl).use ?_
    simp (disch := omega) only [go_sem, seval, reduceCtorEq, ↓reduceIte]
    refine (slMin_c l c h0 hl).use ?_
    simp (disch := omega) only [go_sem, seval, reduceCtorEq, ↓reduceIte]
    rw [sprL, if_neg (by omega)]
theorem rSpread_c (l : List Int) (c : Bool) (hl : l.length ≤ 1048576) (h : ∀ n ∈ l, -1152921504606846976 ≤ n ∧ n ≤ 1152921504606846976) : ACalls Tryz.prog 33 [.p (.list c (l.map eI))] [] fun x H' => x = .p (.int .i64 (sprL l)) ∧ H' = [] := by
  refine acalls_pure (fn := Tryz.f33) Tryz.func33 rfl isF33 ?_
  simp (disch := omega) only [Tryz.f33, go_sem, seval, reduceCtorEq, ↓reduceIte]
  refine acond_b (fun h1 => ?_) (fun h1 => ?_) <;> (try simp only [decide_eq_true_eq, decide_eq_false_iff_not] at h1) <;> simp (disch := omega) only [Sh.out h1, go_sem, seval, reduceCtorEq, ↓reduceIte]
  · rw [sprL, if_pos (by omega)]
  · have h0 : 0 < l.length := by omega
    have hr := mmL_rng h h0 l.length (Nat.le_refl _)
    refine awp_for [0] (fun k : Nat => [(3, .p (.int .i64 (minL l k))), (4, .p (.int .i64 (maxL l k))), (5, .p (.int .i64 k))]) (fun _ => []) (fun k => k ≤ l.length) (fun k => l.length - k) 0 (by omega) (Weak.mk ?_) ?_
    · simp (disch := omega) only [minL, maxL, List.take_zero, List.foldl_nil, go_sem, seval, reduceCtorEq, ↓reduceIte]
    · intro k hk
      have hrk := mmL_rng h h0 k hk
      simp (disch := omega) only [go_sem, seval, reduceCtorEq, ↓reduceIte]
      refine acond_b (fun h2 => ?_) (fun h2 => ?_) <;> (try simp only [decide_eq_true_eq, decide_eq_false_iff_not] at h2) <;> simp (disch := omega) only [Sh.out h2, go_sem, seval, reduceCtorEq, ↓reduceIte]
      · exact ⟨k + 1, by omega, by omega, Weak.mk (by simp (disch := omega) only [minL_succ (show k < l.length by omega), maxL_succ (show k < l.length by omega), go_sem, seval, reduceCtorEq, ↓reduceIte])⟩
      · have : k = l.length := by omega
        subst this
        rw [sprL, if_neg (by omega)]
end Go.Proofs.YtccjopdlbolnhaaGreatDoor.K
set_option linter.unusedVariables false
set_option linter.unusedSimpArgs false
namespace Go.Proofs.YtccjopdlbolnhaaGreatDoor.K
open Go Go.AM Go.Proofs
set_option maxRecDepth 8000
set_option maxHeartbeats 8000000
theorem useT3 {g : FuncId} {args : List V} {a b c : PV} {H : List AM.Obj} {K : V → List AM.Obj → Prop} (h : ACalls Tryz.prog g args [] fun x H' => x = .tup [.p a, .p b, .p c] ∧ H' = []) (k : K (.tup [.p a, .p b, .p c]) H) (ha : refBs 0 args = true := by rfl) : ACalls Tryz.prog g args H K :=
  (h.behind ha H).mono fun x H' hq => by
    obtain ⟨y, H1, ⟨rfl, rfl⟩, rfl, rfl⟩ := hq
    simpa [shV, shVs] using k
theorem useT' {g : FuncId} {args : List V} {a b : PV} {H : List AM.Obj} {K : V → List AM.Obj → Prop} (h : ACalls Tryz.prog g args [] fun x H' => x = .tup [.p a, .p b] ∧ H' = []) (k : K (.tup [.p a, .p b]) H) (ha : refBs 0 args = true := by rfl) : ACalls Tryz.prog g args H K :=
  (h.behind ha H).mono fun x H' hq => by
    obtain ⟨y, H1, ⟨rfl, rfl⟩, rfl, rfl⟩ := hq
    simpa [shV, shVs] using k
end Go.Proofs.YtccjopdlbolnhaaGreatDoor.K
set_option linter.unusedVariables false
set_option linter.unusedSimpArgs false
namespace Go.Proofs.YtccjopdlbolnhaaGreatDoor.K
open Go Go.AM Go.Proofs
set_option maxRecDepth 8000
set_option maxHeartbeats 8000000
@[go_sem] theorem cells_fnP {f : FuncId} : PV.cells (.fn f) = [.fn f] := Eq.trans rfl rfl
theorem fCompare_c (a b : List Int) (c d : Bool) (ha : a.length ≤ 1048576) (hb : b.length ≤ 1048576) : ACalls Tryz.prog 30 [.p (.list c (a.map eI)), .p (.list d (b.map eI))] [] fun x H' => x = .p (.int .i64 (cmpL a b)) ∧ H' = [] := by
  refine acalls_pure (fn := Tryz.f30) Tryz.func30 rfl isF30 ?_
  simp (disch := omega) only [Tryz.f30, go_sem, seval, reduceCtorEq, ↓reduceIte]
  refine (slCompare_c a b c d ha hb).use ?_
  simp (disch := omega) only [go_sem, seval, reduceCtorEq, ↓reduceIte]
/-- a route without visits is refused -/
theorem evalE0_c (x : Inst) (r : Rte) (hty : 0 ≤ r.typ ∧ r.typ < (x.types.length : Int)) (hv : r.visits = []) (ho : x.orders.length ≤ 1048576) (ht : x.types.length ≤ 1048576) (hap : x.apart.length ≤ 1048576) (hbe : x.before.length ≤ 1048576) :
    ACalls Tryz.prog 73 [.p (eInst x), .p (eRte r)] [] fun y H' => y = .tup [.p (.agg [.bool false, .int .i64 0, .list true [], .int .i64 0, .int .i64 0]), .p (.agg [.int .i64 0, .int .i64 0, .int .i64 0, .int .i64 0]), .p (.int .i64 2)] ∧ H' = [] := by
  have cs := seqCheck_c x r ho (by rw [hv]; simp) hap hbe
  have e : seqChk x r.visits = 2 := by rw [hv]; simp [seqChk]
  rw [e] at cs
  have e1 : ¬ r.typ < 0 := by omega
  have e2 : ¬ (x.types.length : Int) ≤ r.typ := by omega
  refine acalls_weak [] (fn := Tryz.f73) Tryz.func73 rfl isF73 ?_
  simp (disch := omega) only [Tryz.f73, e1, e2, go_sem, seval, reduceCtorEq, ↓reduceIte]
  refine awp_for [2, 3, 4, 5, 25, 26] (fun _ : Unit => [(27, .p (.int .i64 0))]) (fun _ => [instO x, rteO r, .cells [.p (.bool false), .p (.int .i64 0), .p (.list true []), .p (.int .i64 0), .p (.int .i64 0)], .cells [.p (.int .i64 0), .p (.int .i64 0), .p (.int .i64 0), .p (.int .i64 0)], .elems 1 [.fn 107, .fn 108, .fn 109]]) (fun _ => True) (fun _ => 0) () trivial (Weak.mk ?_) ?_
  · simp (disch := omega) only [instO, rteO, go_sem, seval, reduceCtorEq, ↓reduceIte]
  · intro _ _
    simp (disch := omega) only [instO, rteO, go_sem, seval, reduceCtorEq, ↓reduceIte]
    have he : elt [PV.fn 107, PV.fn 108, PV.fn 109] 0 = PV.fn 107 := rfl
    simp (disch := first | omega | (simp only [List.length_cons, List.length_nil, List.length_append, List.length_map, List.length_take, List.length_drop] <;> omega)) only [he, go_sem, seval, reduceCtorEq, ↓reduceIte]
    refine (cs).use ?_
    simp (disch := omega) only [go_sem, seval, reduceCtorEq, ↓reduceIte]
    exact ⟨_, _, Weak.mk (by simp (disch := omega) only [go_sem, seval, reduceCtorEq, ↓reduceIte]), rfl, rfl⟩
theorem worksE0_c (x : Inst) (r : Rte) (hty : 0 ≤ r.typ ∧ r.typ < (x.types.length : Int)) (hv : r.visits = []) (ho : x.orders.length ≤ 1048576) (ht : x.types.length ≤ 1048576) (hap : x.apart.length ≤ 1048576) (hbe : x.before.length ≤ 1048576) :
    ACalls Tryz.prog 50 [.p (eInst x), .p (eRte r)] [] fun y H' => y = .tup [.p (.int .i64 0), .p (.int .i64 2)] ∧ H' = [] := by
  refine acalls_weak [] (fn := Tryz.f50) Tryz.func50 rfl isF50 ?_
  simp (disch := omega) only [Tryz.f50, go_sem, seval, reduceCtorEq, ↓reduceIte]
  refine useT3 (evalE0_c x r hty hv ho ht hap hbe) ?_
  simp (disch := omega) only [go_sem, seval, reduceCtorEq, ↓reduceIte]
  exact ⟨_, _, Weak.mk (by simp (disch := omega) only [go_sem, seval, reduceCtorEq, ↓reduceIte]), rfl, rfl⟩
theorem fWorksE0_c (x : Inst) (p : Pln) (r : Rte) (hp : p.routes = [r]) (hty : 0 ≤ r.typ ∧ r.typ < (x.types.length : Int)) (hv : r.visits = []) (ho : x.orders.length ≤ 1048576) (ht : x.types.length ≤ 1048576) (hap : x.apart.length ≤ 1048576) (hbe : x.before.length ≤ 1048576) :
    ACalls Tryz.prog 27 [.p (eInst x), .p (ePln p)] [] fun y H' => y = .tup [.p (.list true []), .p (.int .i64 2)] ∧ H' = [] := by
  obtain ⟨c1, rs, c2, us⟩ := p
  simp only at hp
  subst hp
  refine acalls_weak [] (fn := Tryz.f27) Tryz.func27 rfl isF27 ?_
  simp (disch := omega) only [Tryz.f27, go_sem, seval, reduceCtorEq, ↓reduceIte]
  refine awp_for [2, 12, 13] (fun _ : Unit => [(14, .p (.int .i64 0))]) (fun _ => [instO x, .cells [.p (.list c1 [eRte r]), .p (.list c2 (us.map eI))]]) (fun _ => True) (fun _ => 0) () trivial (Weak.mk ?_) ?_
  · simp (disch := omega) only [instO, List.length_cons, List.length_nil, go_sem, seval, reduceCtorEq, ↓reduceIte]
  · intro _ _
    simp (disch := omega) only [instO, List.length_cons, List.length_nil, go_sem, seval, reduceCtorEq, ↓reduceIte]
    rw [aindexB_list (by omega) (by simp)]
    have he : elt [PV.agg [.int .i64 r.typ, .int .i64 r.start, .list r.rests_c (r.rests.map eB), .list r.visits_c (r.visits.map eVis)]] 0 = eRte r := rfl
    simp (disch := omega) only [he, go_sem, seval, reduceCtorEq, ↓reduceIte]
    refine useT' (worksE0_c x r hty hv ho ht hap hbe) ?_
    simp (disch := omega) only [go_sem, seval, reduceCtorEq, ↓reduceIte]
    exact ⟨_, _, Weak.mk (by simp (disch := omega) only [go_sem, seval, reduceCtorEq, ↓reduceIte]), rfl, rfl⟩
theorem ex52_c : ACalls Tryz.prog 26 [] [] fun x H' => x = .p (.bool true) ∧ H' = [] := by
  refine acalls_weak [2, 3] (fn := Tryz.f26) Tryz.func26 rfl isF26 ?_
  simp (disch := omega) only [Tryz.f26, go_sem, seval, reduceCtorEq, ↓reduceIte]
  refine awp_seq (awp_mid 1 ?_)
  simp (disch := omega) only [go_sem, seval, reduceCtorEq, ↓reduceIte]
  refine ⟨_, _, (Weak.fz (o := 0) (by rfl)).trans (Weak.fz (o := 2) (by rfl)), ?_⟩
  simp (disch := omega) only [List.map_cons, List.map_nil, List.set_cons_succ, List.set_cons_zero, List.cons_append, List.nil_append, go_sem, seval, reduceCtorEq, ↓reduceIte]
  refine awp_weak (Weak.fz (o := 3) (by rfl)) ?_
  refine awp_sound [3] _ _ _ _ ?_
  simp (disch := omega) only [List.map_cons, List.map_nil, List.set_cons_succ, List.set_cons_zero, go_sem, seval, reduceCtorEq, ↓reduceIte]
  refine awp_seq (awp_mid 3 ?_)
  simp (disch := omega) only [go_sem, seval, reduceCtorEq, ↓reduceIte]
  refine ⟨_, _, Weak.fz (o := 4) (by rfl), ?_⟩
  simp (disch := omega) only [List.map_cons, List.map_nil, List.set_cons_succ, List.set_cons_zero, List.cons_append, List.nil_append, go_sem, seval, reduceCtorEq, ↓reduceIte]
  refine useT' (fWorksE0_c ⟨⟨false, [[65]], true, []⟩, false, [⟨[118], 2, 0, 0, false, [5], 0, 0, 0, 100, 100, 0, 0, 0, 0⟩], true, [], true, [], true, []⟩ ⟨false, [⟨0, 0, true, [], true, []⟩], true, []⟩ ⟨0, 0, true, [], true, []⟩ rfl (by decide) rfl (by decide) (by decide) (by decide) (by decide)) ?_
  simp (disch := omega) only [go_sem, seval, reduceCtorEq, ↓reduceIte]
  refine awp_sound [] _ _ _ _ ?_
  simp (disch := omega) only [go_sem, seval, reduceCtorEq, ↓reduceIte]
  have k1 : cmpL [40, 30] [40, 20, 10] = 1 := by decide
  have k2 : cmpL [40, 30] [50] = -1 := by decide
  have k3 : cmpL [1] [1, 0] = -1 := by decide
  have k4 : sprL [40, 30] = 10 := by decide
  have k5 : sprL [] = 0 := by decide
  refine ACalls.view (fCompare_c [40, 30] [40, 20, 10] false false (by decide) (by decide)) (by simp [vws, vw, oat, eI]) (by rfl) ?_
  simp (disch := omega) only [k1, go_sem, seval, reduceCtorEq, ↓reduceIte]
  refine ACalls.view (fCompare_c [40, 30] [50] false false (by decide) (by decide)) (by simp [vws, vw, oat, eI]) (by rfl) ?_
  simp (disch := omega) only [k2, go_sem, seval, reduceCtorEq, ↓reduceIte]
  refine ACalls.view (fCompare_c [1] [1, 0] false false (by decide) (by decide)) (by simp [vws, vw, oat, eI]) (by rfl) ?_
  simp (disch := omega) only [k3, go_sem, seval, reduceCtorEq, ↓reduceIte]
  refine ACalls.view (spread_c [40, 30] false (by decide) (by decide)) (by simp [vws, vw, oat, eI]) (by rfl) ?_
  simp (disch := omega) only [k4, go_sem, seval, reduceCtorEq, ↓reduceIte]
  refine ACalls.view (spread_c [] true (by decide) (by decide)) (by simp [vws, vw, oat]) (by rfl) ?_
  simp (disch := omega) only [k5, go_sem, seval, reduceCtorEq, ↓reduceIte]
  exact ⟨_, _, Weak.mk (by simp (disch := omega) only [go_sem, seval, reduceCtorEq, ↓reduceIte]), rfl, rfl⟩
theorem lawCompares_c (a b : List Int) (c d : Bool) (ha : a.length ≤ 1048576) (hb : b.length ≤ 1048576) : ACalls Tryz.prog 8 [.p (.list c (a.map eI)), .p (.list d (b.map eI))] [] fun x H' => x = .p (.bool true) ∧ H' = [] := by
  refine acalls_pure (fn := Tryz.f8) Tryz.func8 rfl isF8 ?_
  simp (disch := omega) only [Tryz.f8, go_sem, seval, reduceCtorEq, ↓reduceIte]
  refine awp_for [0, 1, 7, 8] (fun k : Nat => [(9, .p (.int .i64 k))]) (fun _ => []) (fun k => k ≤ a.length ∧ ∀ j, j < k → -1152921504606846976 ≤ nth a j ∧ nth a j ≤ 1152921504606846976) (fun k => a.length - k) 0 (by simp) (Weak.mk ?_) ?_
  · simp (disch := omega) only [go_sem, seval, reduceCtorEq, ↓reduceIte]
  · rintro k ⟨hk, hno⟩
    simp (disch := omega) only [go_sem, seval, reduceCtorEq, ↓reduceIte]
    refine acond_b (fun h1 => ?_) (fun h1 => ?_) <;> (try simp only [decide_eq_true_eq, decide_eq_false_iff_not] at h1) <;> simp (disch := omega) only [Sh.out h1, go_sem, seval, reduceCtorEq, ↓reduceIte]
    · refine aguard_f (fun h2 => ?_) (fun h2 => ?_) <;> (try simp only [decide_eq_true_eq, decide_eq_false_iff_not] at h2) <;> simp (disch := omega) only [Sh.out h2, go_sem, seval, reduceCtorEq, ↓reduceIte]
      · refine (ex52_c).use ?_
        simp (disch := omega) only [go_sem, seval, reduceCtorEq, ↓reduceIte]
      · refine acond_b (fun h3 => ?_) (fun h3 => ?_) <;> (try simp only [decide_eq_true_eq, decide_eq_false_iff_not] at h3) <;> simp (disch := omega) only [Sh.out h3, go_sem, seval, reduceCtorEq, ↓reduceIte]
        · refine (ex52_c).use ?_
          simp (disch := omega) only [go_sem, seval, reduceCtorEq, ↓reduceIte]
        · exact ⟨k + 1, ⟨by omega, upto_iff.2 ⟨hno, by omega⟩⟩, by omega, Weak.mk (by simp (disch := omega) only [go_sem, seval, reduceCtorEq, ↓reduceIte])⟩
    · have hka : k = a.length := by omega
      subst hka
      have hr : ∀ n ∈ a, -1152921504606846976 ≤ n ∧ n ≤ 1152921504606846976 := fun n hn => by
        obtain ⟨j, hj, rfl⟩ := List.mem_iff_getElem.1 hn
        rw [← nth_get hj]; exact hno j hj
      refine (fCompare_c a b c d ha hb).use ?_
      simp (disch := omega) only [go_sem, seval, reduceCtorEq, ↓reduceIte]
      refine (rCompare_c a b c d ha hb).use ?_
      simp (disch := omega) only [go_sem, seval, reduceCtorEq, ↓reduceIte]
      refine (spread_c a c ha hr).use ?_
      simp (disch := omega) only [go_sem, seval, reduceCtorEq, ↓reduceIte]
      refine (rSpread_c a c ha hr).use ?_
      simp (disch := omega) only [go_sem, seval, reduceCtorEq, ↓reduceIte]
      refine (ex52_c).use ?_
      simp (disch := omega) only [go_sem, seval, reduceCtorEq, ↓reduceIte]
end Go.Proofs.YtccjopdlbolnhaaGreatDoor.K
