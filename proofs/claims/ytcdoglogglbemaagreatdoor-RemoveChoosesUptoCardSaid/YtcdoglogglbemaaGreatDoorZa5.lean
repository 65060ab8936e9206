/- Declarations that the closing texts need, part 5: joined by tools/slim.py. -/
import Derived.Test.YtcdoglogglbemaaGreatDoorZa4
set_option linter.unusedVariables false
set_option linter.unusedSimpArgs false
universe u
namespace Go.AM
open Go.RowKit
structure Tk {α : Sort u} (a : α) : Type where
def Zv {α : Sort u} (a : α) (_ : Tk a) : α := a
@[go_sem] theorem Zre {α β : Type} {f : α -> β} {t x} : Zv f t x = f x := Eq.trans rfl rfl
@[go_sem ↓] theorem ZqO {α β : Type} {f : α -> β -> Prop} {t x y} : Zv f t x y = f x y := Eq.trans rfl rfl
@[go_sem ↓] theorem ZpT {α β γ : Type} {f : α -> β -> γ -> Prop} {t x y z} : Zv f t x y z = f x y z := Eq.trans rfl rfl
def pst (x : Option V) (K : V -> Prop) : Prop := match x with | some v => K v | none => False
def mst (x : Option (V × List Obj)) (K : V -> List Obj -> Prop) : Prop := match x with | some (v, H) => K v H | none => False
def bst (x : V) (K : Bool -> Prop) : Prop := match x with | .p (.bool b) => K b | _ => False
def hst (x : Option (List Obj)) (K : List Obj -> Prop) : Prop := match x with | some H => K H | none => False
@[go_sem ↓, go_sem] theorem ZtU {v K} : pst (some v) K = K v := Eq.trans rfl rfl
@[go_sem ↓, go_sem] theorem Zvc {v H K} : mst (some (v, H)) K = K v H := Eq.trans rfl rfl
@[go_sem ↓, go_sem] theorem ZuL {H K} : hst (some H) K = K H := Eq.trans rfl rfl
@[congr] theorem ZtC {x x' K} (h : x = x') : pst x K = pst x' K := by rw [h]
@[congr] theorem ZsN {x x' K} (h : x = x') : mst x K = mst x' K := by rw [h]
@[congr] theorem Zok {x x' K} (h : x = x') : hst x K = hst x' K := by rw [h]
def idF (fr : List V) : List V := fr
@[go_sem] theorem ZzD {fr} : idF fr = fr := Eq.trans rfl rfl
section code
variable {cuts : List Nat} {P : Program} {fr : List V} {H : List Obj} {Q : Exit -> List V -> List Obj -> Prop}
@[go_sem ↓] theorem ZsP : awp cuts P .skip fr H Q = Q .normal fr H := Eq.trans rfl rfl
@[go_sem ↓] theorem Zmz {id} {l : List Oper} : awp cuts P (.region id l.toArray false) fr H Q = Yk P (l.map (·.dst)) l (idF fr) H (Zv (Q .normal) ⟨⟩) := by simp [awp, idF, Zv]
@[go_sem ↓] theorem Zm8 {id ops} : awp cuts P (.region id ops true) fr H Q = AWP P (.region id (Zv ops ⟨⟩) true) fr H (Zv Q ⟨⟩) := by simp [awp, Zv]
@[go_sem ↓] theorem ZuG {x y} : awp [] P (.seq x y) fr H Q = awp [] P x fr H (Ul (fun fr H => awp [] P y fr H Q) Q) := by
 rw [awp]; cases hid x <;> simp
def Zjg (b : Bool) (A B : Prop) : Prop := if b then A else B
def Za6 (cuts : List Nat) : Option Nat -> Bool
 | some i => cuts.contains i
 | none => false
@[go_sem ↓] theorem ZpL {k x y} : awp (k :: cuts) P (.seq x y) fr H Q = Zjg (Za6 (k :: cuts) (hid x)) (Zv (AWP P (.seq (Zv x ⟨⟩) (Zv y ⟨⟩)) fr H (Zv Q ⟨⟩)) ⟨⟩) (Zv (awp (k :: cuts) P x fr H (Ul (fun fr H => awp (k :: cuts) P y fr H Q) Q)) ⟨⟩) := by
 rw [awp]; cases hid x <;> simp [Zjg, Za6, Zv]
@[go_sem ↓, go_sem] theorem ZsS {A B : Prop} {t} : Zjg true (Zv A t) B = A := by simp [Zjg, Zv]
@[go_sem ↓, go_sem] theorem ZmN {A B : Prop} {t} : Zjg false A (Zv B t) = B := by simp [Zjg, Zv]
theorem ZdO {b b' A B} (h : b = b') : Zjg b A B = Zjg b' A B := by rw [h]
@[go_sem ↓] theorem Znc {id ops d} : hid (.region id ops d) = some id := Eq.trans rfl rfl
@[go_sem ↓] theorem Zxp {x y} : hid (.seq x y) = hid x := Eq.trans rfl rfl
@[go_sem ↓] theorem Zrv {id c} : hid (.block id c) = hid c := Eq.trans rfl rfl
@[go_sem ↓] theorem Zue {c x y} : hid (.cond c x y) = none := Eq.trans rfl rfl
@[go_sem] theorem ZmK : Za6 cuts none = false := Eq.trans rfl rfl
@[go_sem] theorem Zqf {i} : Za6 [] (some i) = false := Eq.trans rfl rfl
@[go_sem] theorem Znd {k i} : Za6 (k :: cuts) (some i) = (decide (i = k) || Za6 cuts (some i)) := by by_cases h : i = k <;> simp [Za6, h]
@[go_sem ↓] theorem Zsq {c x y} : awp cuts P (.cond c x y) fr H Q = Vd (ev fr c) (Zv (awp cuts P x fr H Q) ⟨⟩) (Zv (awp cuts P y fr H Q) ⟨⟩) := Eq.trans rfl rfl
@[go_sem ↓] theorem Zny {id c} : awp cuts P (.block id c) fr H Q = awp cuts P c fr H (WU id Q) := Eq.trans rfl rfl
@[go_sem ↓] theorem Zp5 {id} : awp cuts P (.exit id) fr H Q = Q (.exit id) fr H := Eq.trans rfl rfl
@[go_sem ↓] theorem Zvf : awp cuts P .ret fr H Q = Q .ret fr H := Eq.trans rfl rfl
@[go_sem ↓] theorem Zpw {c} : awp cuts P (.loop c) fr H Q = AWP P (.loop (Zv c ⟨⟩)) fr H (Zv Q ⟨⟩) := Eq.trans rfl rfl
@[go_sem ↓] theorem Zp8 {c t} : awp cuts P (Zv c t) fr H Q = awp cuts P c fr H Q := Eq.trans rfl rfl
theorem ZfO {c fr' H'} (h : fr = fr') (h2 : H = H') : awp cuts P c fr H Q = awp cuts P c fr' H' Q := by rw [h, h2]
theorem Zfu {c fr' H'} (h : fr = fr') (h2 : H = H') : AWP P c fr H Q = AWP P c fr' H' Q := by rw [h, h2]
@[go_sem ↓] theorem Zjq {A : List V -> List Obj -> Prop} : Ul A Q .normal fr H = A fr H := Eq.trans rfl rfl
@[go_sem ↓] theorem ZmL {A : List V -> List Obj -> Prop} {id} : Ul A Q (.exit id) fr H = Q (.exit id) fr H := Eq.trans rfl rfl
@[go_sem ↓] theorem ZsU {A : List V -> List Obj -> Prop} : Ul A Q .ret fr H = Q .ret fr H := Eq.trans rfl rfl
@[go_sem ↓] theorem Zht {id} : WU id Q .normal fr H = Q .normal fr H := Eq.trans rfl rfl
@[go_sem ↓] theorem ZnF {id} : WU id Q .ret fr H = Q .ret fr H := Eq.trans rfl rfl
@[go_sem ↓] theorem ZkH {id id'} : WU id Q (.exit id') fr H = if id' = id then Q .normal fr H else Q (.exit id') fr H := Eq.trans rfl rfl
theorem Za5 {A : List V -> List Obj -> Prop} {e fr' H'} (h : fr = fr') (h2 : H = H') : Ul A Q e fr H = Ul A Q e fr' H' := by rw [h, h2]
theorem ZaI {id e fr' H'} (h : fr = fr') (h2 : H = H') : WU id Q e fr H = WU id Q e fr' H' := by rw [h, h2]
@[go_sem ↓] theorem Zks {rs} {Q : V -> List Obj -> Prop} : Zc7 P rs Q .normal fr H = mst ((XT P fr H rs).map fun xs => (WY xs, H)) (Zv Q ⟨⟩) := by
 simp only [Zc7, Zv]; split <;> simp_all [mst]
@[go_sem ↓] theorem Zvy {rs} {Q : V -> List Obj -> Prop} : Zc7 P rs Q .ret fr H = mst ((XT P fr H rs).map fun xs => (WY xs, H)) (Zv Q ⟨⟩) := by
 simp only [Zc7, Zv]; split <;> simp_all [mst]
theorem ZdG {rs e fr' H'} {Q : V -> List Obj -> Prop} (h : fr = fr') (h2 : H = H') : Zc7 P rs Q e fr H = Zc7 P rs Q e fr' H' := by rw [h, h2]
@[go_sem] theorem Znh : XT P fr H [] = some [] := Eq.trans rfl rfl
@[go_sem] theorem Znm {t l} : XT P fr H (.tmp t :: l) = (XT P fr H l).map (gt fr t :: ·) := by
 simp only [XT, ZmP]; cases XT P fr H l <;> rfl
@[go_sem] theorem Zll {a t l} : XT P fr H (.cell a t :: l) = (V1 P H t (gt fr a)).bind fun x => (XT P fr H l).map (x :: ·) := by
 simp only [XT, ZmP]; cases V1 P H t (gt fr a) <;> cases XT P fr H l <;> rfl
@[go_sem] theorem Znw {x} : WY [x] = x := Eq.trans rfl rfl
@[go_sem] theorem ZkW : WY [] = .tup [] := Eq.trans rfl rfl
@[go_sem] theorem Zd6 {x y l} : WY (x :: y :: l) = .tup (x :: y :: l) := Eq.trans rfl rfl
end code
attribute [congr] ZdO ZfO Zfu Za5 ZaI ZdG
@[go_sem] theorem ZyZ {x : V} {l} : gt (x :: l) 0 = x := Eq.trans rfl rfl
@[go_sem] theorem Zy5 {x : V} {l n} : gt (x :: l) (n + 1) = gt l n := Eq.trans rfl rfl
@[go_sem] theorem ZzE {n} : gt [] n = .junk := Eq.trans rfl rfl
@[go_sem] theorem ZxU {x v : V} {l} : pt (x :: l) 0 v = v :: l := Eq.trans rfl rfl
@[go_sem] theorem Zy9 {x v : V} {l n} : pt (x :: l) (n + 1) v = x :: pt l n v := Eq.trans rfl rfl
@[go_sem] theorem ZvB {fr d v} : ptO fr (some d) v = pt fr d v := Eq.trans rfl rfl
@[go_sem] theorem Zuo {fr v} : ptO fr none v = fr := Eq.trans rfl rfl
@[go_sem] theorem Zu3 {x : Obj} {l} : oat (x :: l) 0 = x := Eq.trans rfl rfl
@[go_sem] theorem ZtW {x : Obj} {l n} : oat (x :: l) (n + 1) = oat l n := Eq.trans rfl rfl
@[go_sem] theorem ZvK {x v : Obj} {l} : ost (x :: l) 0 v = v :: l := Eq.trans rfl rfl
@[go_sem] theorem ZvY {x v : Obj} {l n} : ost (x :: l) (n + 1) v = x :: ost l n v := Eq.trans rfl rfl
@[go_sem] theorem ZxI {fr t} : evx fr (.tmp t) = gt fr t := Eq.trans rfl rfl
@[go_sem] theorem Zzw {fr t} : ev fr (.tmp t) = gt fr t := Eq.trans rfl rfl
@[go_sem] theorem Zye {fr f} : ev fr (.func f) = .fn (.func f) [] [] := Eq.trans rfl rfl
@[go_sem] theorem Zzj {fr k n} : ev fr (.const (.int k n)) = .p (.int k n) := Eq.trans rfl rfl
@[go_sem] theorem Zyw {fr b} : ev fr (.const (.bool b)) = .p (.bool b) := Eq.trans rfl rfl
@[go_sem] theorem ZzY {fr s} : ev fr (.const (.string s)) = .p (.str s.data.toList) := Eq.trans rfl rfl
@[go_sem] theorem Zx2 {fr} : ev fr (.const (.slice none 0 0)) = .p (.list true []) := Eq.trans rfl rfl
@[go_sem] theorem ZAN {fr l} : ev fr (.const (.agg (List.toArray l))) = match cvs l with | some xs => .p (.agg xs) | none => .junk := Eq.trans rfl rfl
@[go_sem] theorem ZuQ {fr d} {l : List (Option Nat)} : gAt fr (some d :: l) 0 = gt fr d := by simp [gAt]
@[go_sem] theorem Zua {fr o n} {l : List (Option Nat)} : gAt fr (o :: l) (n + 1) = gAt fr l n := by simp [gAt]
section ops
variable {P : Program} {fr : List V} {H : List Obj} {ds : List (Option Nat)} {K : List V -> List Obj -> Prop} {r : List Oper} {d : Option Nat} {t : TypeId} {ps : String} {af : Array Edge} {g : Option (Nat × Bool)} {k : V -> List Obj -> Prop}
theorem ZdB {l fr' H'} (h : fr = fr') (h2 : H = H') : Yk P ds l fr H K = Yk P ds l fr' H' K := by rw [h, h2]
theorem ZbW {o fr' H'} (h : fr = fr') (h2 : H = H') : Zq P o fr H k = Zq P o fr' H' k := by rw [h, h2]
@[go_sem ↓] theorem Zuv : Yk P ds [] fr H K = K fr H := Eq.trans rfl rfl
@[go_sem] theorem Zo6 {op} : Yk P ds (⟨d, op, t, ps, af, none⟩ :: r) fr H K = Zq P ⟨d, op, t, ps, af, none⟩ fr H (Zv (fun x H' => Yk P ds r (ptO fr d x) H' K) ⟨⟩) := Eq.trans rfl rfl
@[go_sem] theorem Znp {op j b} : Yk P ds (⟨d, op, t, ps, af, some (j, b)⟩ :: r) fr H K = Z1 (gAt fr ds j) b (Zv (Zq P ⟨d, op, t, ps, af, none⟩ fr H (Zv (fun x H' => Yk P ds r (ptO fr d x) H' K) ⟨⟩)) ⟨⟩) (Zv (Yk P ds r (ptO fr d (.tup [])) H K) ⟨⟩) := by
 simp only [Yk, Zv];unfold Z1
 split <;> rfl
theorem ZE {op : Op} (h : XE op = none) (h2 : WT P op fr H = none) : Zq P ⟨d, op, t, ps, af, g⟩ fr H k = pst (ZD P op fr H) fun x => k x H := by
 simp only [Zq, h, aop, h2]
 all_goals (cases ZD P op fr H <;> rfl)
theorem Xr {op : Op} (h : XE op = none) (h2 : ZD P op fr H = none) : Zq P ⟨d, op, t, ps, af, g⟩ fr H k = mst (WT P op fr H) k := by
 simp only [Zq, h, aop, h2, mst]
 all_goals (cases WT P op fr H <;> rfl)
@[go_sem ↓] theorem Znj {x} : Zq P ⟨d, .move x, t, ps, af, g⟩ fr H k = k (ev fr x) H := by rw [ZE rfl rfl]; rfl
@[go_sem ↓] theorem Zjt {x} : Zq P ⟨d, .assign x, t, ps, af, g⟩ fr H k = k (ev fr x) H := by rw [ZE rfl rfl]; rfl
def vif (b : Bool) (x y : V) : V := if b then x else y
@[go_sem] theorem ZvT {x y} : vif true x y = x := Eq.trans rfl rfl
@[go_sem] theorem Zs1 {x y} : vif false x y = y := Eq.trans rfl rfl
@[go_sem] theorem ZuB {b x y} : vif b (.p (.bool x)) (.p (.bool y)) = .p (.bool (if b then x else y)) := by cases b <;> rfl
@[go_sem] theorem ZuD {b} : asB (.p (.bool b)) = some b := Eq.trans rfl rfl
@[go_sem ↓] theorem ZmW {c x y} : Zq P ⟨d, .pick c x y, t, ps, af, g⟩ fr H k = pst ((asB (ev fr c)).map fun b => vif b (ev fr x) (ev fr y)) (Zv (fun v => k v H) ⟨⟩) := by
 rw [ZE rfl rfl];simp only [ZD, Xg]
 cases asB (ev fr c) <;> rfl
@[go_sem ↓] theorem Zm7 {u x} : Zq P ⟨d, .load u x, t, ps, af, g⟩ fr H k = pst (V1 P H u (ev fr x)) (Zv (fun v => k v H) ⟨⟩) := by rw [ZE rfl rfl]; rfl
@[go_sem ↓] theorem Zrj {op u x y u2} : Zq P ⟨d, .binOp op u x y u2, t, ps, af, g⟩ fr H k = pst ((Ye P op u (ev fr x) (ev fr y)).map .p) (Zv (fun v => k v H) ⟨⟩) := by rw [ZE rfl rfl]; rfl
@[go_sem ↓] theorem Zuk {op u x} : Zq P ⟨d, .unOp op u x, t, ps, af, g⟩ fr H k = pst ((aun op (ev fr x)).map .p) (Zv (fun v => k v H) ⟨⟩) := by rw [ZE rfl rfl]; rfl
def Zli (x y : Option PV) : Option PV := match x with | some z => some z | none => y
@[go_sem] theorem Zni {z y} : Zli (some z) y = some z := Eq.trans rfl rfl
@[go_sem] theorem ZmQ {y} : Zli none y = y := Eq.trans rfl rfl
@[go_sem ↓] theorem Znt {s u x} : Zq P ⟨d, .convert s u x, t, ps, af, g⟩ fr H k = pst ((Zli (Je P H s u (ev fr x)) (ZfR P s u (ev fr x))).map .p) (Zv (fun v => k v H) ⟨⟩) := by
 rw [ZE rfl rfl];simp only [ZD, Xg]
 cases Je P H s u (ev fr x) <;> rfl
@[go_sem ↓] theorem ZgW {f cs es} : Zq P ⟨d, .makeFunc f (List.toArray cs) (List.toArray es), t, ps, af, g⟩ fr H k = k (.fn f (cs.map (ev fr)) (es.map (ev fr))) H := by rw [ZE rfl rfl]; rfl
@[go_sem ↓] theorem ZkQ {u x lo hi mx} : Zq P ⟨d, .slice u x lo hi mx, t, ps, af, g⟩ fr H k = pst (XP P H u fr (ev fr x) lo hi mx) (Zv (fun v => k v H) ⟨⟩) := by rw [ZE rfl rfl]; rfl
@[go_sem ↓] theorem Zf7 {s x f} : Zq P ⟨d, .fieldAddr s x f, t, ps, af, g⟩ fr H k = pst (Vz P H s f (ev fr x)) (Zv (fun v => k v H) ⟨⟩) := by rw [ZE rfl rfl]; rfl
@[go_sem ↓] theorem Zeu {u x i} : Zq P ⟨d, .indexAddr u x i, t, ps, af, g⟩ fr H k = pst (WW P H u (evx fr x) (ev fr i)) (Zv (fun v => k v H) ⟨⟩) := by rw [ZE rfl rfl]; rfl
@[go_sem ↓] theorem Zla {u x i} : Zq P ⟨d, .index u x i, t, ps, af, g⟩ fr H k = pst (ZgA P u (ev fr x) (ev fr i)) (Zv (fun v => k v H) ⟨⟩) := by rw [ZE rfl rfl]; rfl
def axt (x : V) (i : Nat) : Option V := match x with | .tup vs => vs[i]? | _ => none
@[go_sem] theorem ZyO {vs i} : axt (.tup vs) i = vs[i]? := Eq.trans rfl rfl
@[go_sem ↓] theorem Zg4 {x i} : Zq P ⟨d, .extract x i, t, ps, af, g⟩ fr H k = pst (axt (ev fr x) i) (Zv (fun v => k v H) ⟨⟩) := by
 rw [ZE rfl rfl];simp only [ZD, Xg]
 cases ev fr x <;> rfl
@[go_sem ↓] theorem Zko {u l} : Zq P ⟨d, .build u (List.toArray l), t, ps, af, g⟩ fr H k = pst (KP P H u (l.map fun x => (x.1, ev fr x.2))) (Zv (fun v => k v H) ⟨⟩) := by rw [ZE rfl rfl]; rfl
@[go_sem ↓] theorem Zsi {x u} : Zq P ⟨d, .call ⟨.builtin .len, #[x], #[u]⟩, t, ps, af, g⟩ fr H k = pst ((ZrL P H u (ev fr x)).map .p) (Zv (fun v => k v H) ⟨⟩) := by rw [ZE rfl rfl]; rfl
@[go_sem ↓] theorem Zro {x y us} : Zq P ⟨d, .call ⟨.builtin .max, #[x, y], us⟩, t, ps, af, g⟩ fr H k = pst ((Zat false [ev fr x, ev fr y]).map .p) (Zv (fun v => k v H) ⟨⟩) := by
 rw [ZE rfl rfl]; simp only [ZD, Xg, Zae]; rfl
@[go_sem ↓] theorem Zp1 {x y us} : Zq P ⟨d, .call ⟨.builtin .min, #[x, y], us⟩, t, ps, af, g⟩ fr H k = pst ((Zat true [ev fr x, ev fr y]).map .p) (Zv (fun v => k v H) ⟨⟩) := by
 rw [ZE rfl rfl]; simp only [ZD, Xg, Zae]; rfl
@[go_sem ↓] theorem Zmk {u} : Zq P ⟨d, .alloc u, t, ps, af, g⟩ fr H k = mst ((ZV P u).map fun zs => (.ptr H.length 0, H ++ [.cells (zs.map .p)])) (Zv k ⟨⟩) := by rw [Xr rfl rfl]; rfl
@[go_sem ↓] theorem ZtO {u x} : Zq P ⟨d, .box u x, t, ps, af, g⟩ fr H k = mst ((vc H (ev fr x)).map fun cs => (.ptr H.length 0, H ++ [.cells cs])) (Zv k ⟨⟩) := by rw [Xr rfl rfl]; rfl
def Zwc (H : List Obj) (n : Option Nat) (a : V) (cs : Option (List V)) : Option (List Obj) := n.bind fun n => cs.bind fun cs => Ut H n a cs
@[go_sem] theorem ZoT {n a cs} : Zwc H (some n) a (some cs) = Ut H n a cs := Eq.trans rfl rfl
@[go_sem ↓] theorem ZmF {u x y} : Zq P ⟨d, .store u x y, t, ps, af, g⟩ fr H k = hst (Zwc H (tsz P u) (ev fr x) (vc H (ev fr y))) (Zv (k .junk) ⟨⟩) := by
 rw [Xr rfl rfl];simp only [WT, Zwc]
 cases tsz P u <;> cases vc H (ev fr y) <;> simp [hst, mst, Zv]
 cases Ut H _ (ev fr x) _ <;> rfl
@[go_sem ↓] theorem Zeo {u n l} : Zq P ⟨d, .buildSlice u n (List.toArray l), t, ps, af, g⟩ fr H k = mst (WT P (.buildSlice u n (List.toArray l)) fr H) (Zv k ⟨⟩) := by rw [Xr rfl rfl]; rfl
@[go_sem ↓] theorem ZhP {u} : Zq P ⟨d, .makeMap u none, t, ps, af, g⟩ fr H k = k (.mp H.length) (H ++ [.map []]) := by rw [Xr rfl rfl]; rfl
@[go_sem ↓] theorem ZjE {u x y ok} : Zq P ⟨d, .lookup u x y ok, t, ps, af, g⟩ fr H k = mst (Zd1 P H u (ev fr x) (ev fr y) ok) (Zv k ⟨⟩) := by rw [Xr rfl rfl]; rfl
@[go_sem ↓] theorem Zm5 {u x y z} : Zq P ⟨d, .mapUpdate u x y z, t, ps, af, g⟩ fr H k = mst (ZdP P H u (ev fr x) (ev fr y) (ev fr z)) (Zv k ⟨⟩) := by rw [Xr rfl rfl]; rfl
@[go_sem ↓] theorem Zfn {u x y} : Zq P ⟨d, .makeSlice u x y, t, ps, af, g⟩ fr H k = mst (WT P (.makeSlice u x y) fr H) (Zv k ⟨⟩) := by rw [Xr rfl rfl]; rfl
@[go_sem ↓] theorem ZmD {x u} : Zq P ⟨d, .call ⟨.builtin .clear, #[x], #[u]⟩, t, ps, af, g⟩ fr H k = mst (Uq P H u (ev fr x)) (Zv k ⟨⟩) := by rw [Xr rfl rfl]; rfl
@[go_sem ↓] theorem Zkg {x y u u2} : Zq P ⟨d, .call ⟨.builtin .append, #[x, y], #[u, u2]⟩, t, ps, af, g⟩ fr H k = mst (QE P H u u2 (ev fr x) (ev fr y)) (Zv k ⟨⟩) := by rw [Xr rfl rfl]; rfl
@[go_sem ↓] theorem ZmM {f azs ts} : Zq P ⟨d, .call ⟨.value f, List.toArray azs, ts⟩, t, ps, af, g⟩ fr H k = Zah P (ev fr f) (azs.map (ev fr)) H (Zv k ⟨⟩) := Eq.trans rfl rfl
@[go_sem ↓] theorem Zvk {f fs cs azs} : Zah P (.fn (.func f) fs cs) azs H k = ACalls P f (fs ++ azs ++ cs) H k := Eq.trans rfl rfl
@[go_sem ↓] theorem ZrF {f azs} : Zah P (.p (.fn f)) azs H k = ACalls P f azs H k := Eq.trans rfl rfl
theorem ZbN {f f' azs as'} (h : f = f') (h2 : azs = as') : Zah P f azs H k = Zah P f' as' H k := by rw [h, h2]
theorem ZaA {f azs as' H'} (h2 : azs = as') (h3 : H = H') : ACalls P f azs H k = ACalls P f as' H' k := by rw [h2, h3]
theorem ZbH {x x' A B} (h : x = x') : Vd x A B = Vd x' A B := by rw [h]
theorem ZaJ {x x' b A B} (h : x = x') : Z1 x b A B = Z1 x' b A B := by rw [h]
@[go_sem ↓, go_sem] theorem ZmV {A : Prop} {t B'} : Vd (.p (.bool true)) (Zv A t) B' = A := by simp [Vd, Zv]
@[go_sem ↓, go_sem] theorem ZkD {B : Prop} {t B'} : Vd (.p (.bool false)) B' (Zv B t) = B := by simp [Vd, Zv]
@[go_sem ↓, go_sem] theorem Zp9 {A : Prop} {t B} : Z1 (.p (.bool true)) true (Zv A t) B = A := by simp [Z1, Zv]
@[go_sem ↓, go_sem] theorem Zpy {B : Prop} {t A} : Z1 (.p (.bool true)) false A (Zv B t) = B := by simp [Z1, Zv]
@[go_sem ↓, go_sem] theorem ZoN {B : Prop} {t A} : Z1 (.p (.bool false)) true A (Zv B t) = B := by simp [Z1, Zv]
@[go_sem ↓, go_sem] theorem Zot {A : Prop} {t B} : Z1 (.p (.bool false)) false (Zv A t) B = A := by simp [Z1, Zv]
@[go_sem ↓, go_sem] theorem Zkq {b} {B : Prop} {t A} : Z1 (.tup []) b A (Zv B t) = B := by simp [Z1, Zv]
theorem Z9 {c : Bool} {A B : Prop} {t t'} (h1 : c = true -> A) (h2 : c = false -> B) : Vd (.p (.bool c)) (Zv A t) (Zv B t') := ⟨h1, h2⟩
theorem ZU {c : Bool} {A B : Prop} {t t'} (h1 : c = true -> A) (h2 : c = false -> B) : Z1 (.p (.bool c)) true (Zv A t) (Zv B t') := ⟨h1, fun h => h2 (by simpa using h)⟩
theorem ZT {c : Bool} {A B : Prop} {t t'} (h1 : c = true -> B) (h2 : c = false -> A) : Z1 (.p (.bool c)) false (Zv A t) (Zv B t') := ⟨h2, fun h => h1 (by simpa using h)⟩
class Dc (c : Bool) (p q : outParam Prop) : Prop where
 t : c = true -> p
 f : c = false -> q
instance dcD {p : Prop} [Decidable p] : Dc (decide p) p (¬p) := ⟨of_decide_eq_true, of_decide_eq_false⟩
instance (priority := low) dcB {c : Bool} : Dc c (c = true) (c = false) := ⟨id, id⟩
theorem cD {c : Bool} {A B p q : Prop} {t t'} [d : Dc c p q] (h1 : p -> A) (h2 : q -> B) : Vd (.p (.bool c)) (Zv A t) (Zv B t') := Z9 (fun h => h1 (d.t h)) (fun h => h2 (d.f h))
theorem gT {c : Bool} {A B p q : Prop} {t t'} [d : Dc c p q] (h1 : p -> A) (h2 : q -> B) : Z1 (.p (.bool c)) true (Zv A t) (Zv B t') := ZU (fun h => h1 (d.t h)) (fun h => h2 (d.f h))
theorem gF {c : Bool} {A B p q : Prop} {t t'} [d : Dc c p q] (h1 : p -> B) (h2 : q -> A) : Z1 (.p (.bool c)) false (Zv A t) (Zv B t') := ZT (fun h => h1 (d.t h)) (fun h => h2 (d.f h))
@[go_sem] theorem ZwE {p : Prop} [Decidable p] : (!decide p) = decide (¬p) := by simp
end ops
attribute [congr] ZdB ZbW ZbN ZaA ZbH ZaJ
section vals
variable {P : Program} {H : List Obj} {k : IntKind} {t u : TypeId}
@[go_sem] theorem Zuw {a b} : Ye P .add t (.p (.int k a)) (.p (.int k b)) = some (.int k (k.wrap (a + b))) := by simp [Ye, QQ]
@[go_sem] theorem Zv3 {a b} : Ye P .sub t (.p (.int k a)) (.p (.int k b)) = some (.int k (k.wrap (a - b))) := by simp [Ye, QQ]
@[go_sem] theorem Zg3 {a b} : Ye P .mul t (.p (.int k a)) (.p (.int k b)) = some (.int k (k.wrap (a * b))) := by simp [Ye, QQ]
@[go_sem] theorem Zh3 {a b} (h : b ≠ 0) : Ye P .quo t (.p (.int k a)) (.p (.int k b)) = some (.int k (k.wrap (a.tdiv b))) := by simp [Ye, QQ, h]
@[go_sem] theorem Zhp {a b} (h : b ≠ 0) : Ye P .rem t (.p (.int k a)) (.p (.int k b)) = some (.int k (a.tmod b)) := by simp [Ye, QQ, h]
@[go_sem] theorem Zi0 {a b} : Ye P .and t (.p (.int k a)) (.p (.int k b)) = some (.int k (k.wrap ((BitVec.ofInt k.bits a &&& BitVec.ofInt k.bits b).toNat : Int))) := by simp [Ye, QQ]
@[go_sem] theorem Zfb {a b} : Ye P .or t (.p (.int k a)) (.p (.int k b)) = some (.int k (k.wrap ((BitVec.ofInt k.bits a ||| BitVec.ofInt k.bits b).toNat : Int))) := by simp [Ye, QQ]
@[go_sem] theorem ZbR {a b} : Ye P .andNot t (.p (.int k a)) (.p (.int k b)) = some (.int k (k.wrap ((BitVec.ofInt k.bits a &&& ~~~(BitVec.ofInt k.bits b)).toNat : Int))) := by simp [Ye, QQ]
@[go_sem] theorem Zuz {a b} : Ye P .eql t (.p (.int k a)) (.p (.int k b)) = some (.bool (decide (a = b))) := by simp [Ye, QQ]
@[go_sem] theorem ZvE {a b} : Ye P .neq t (.p (.int k a)) (.p (.int k b)) = some (.bool (decide (¬ a = b))) := by simp [Ye, QQ]
@[go_sem] theorem ZtX {a b} : Ye P .lss t (.p (.int k a)) (.p (.int k b)) = some (.bool (decide (a < b))) := by simp [Ye, QQ]
@[go_sem] theorem Zud {a b} : Ye P .leq t (.p (.int k a)) (.p (.int k b)) = some (.bool (decide (a <= b))) := by simp [Ye, QQ]
@[go_sem] theorem Zu5 {a b} : Ye P .gtr t (.p (.int k a)) (.p (.int k b)) = some (.bool (decide (b < a))) := by simp [Ye, QQ]
@[go_sem] theorem Zt9 {a b} : Ye P .geq t (.p (.int k a)) (.p (.int k b)) = some (.bool (decide (b <= a))) := by simp [Ye, QQ]
@[go_sem] theorem ZhO {a b k'} (h : 0 <= b) : Ye P .shl t (.p (.int k a)) (.p (.int k' b)) = some (.int k (k.wrap (a * 2 ^ (min b.toNat k.bits)))) := by simp [Ye, QQ, show ¬ b < 0 by omega]
@[go_sem] theorem Zhj {a b k'} (h : 0 <= b) : Ye P .shr t (.p (.int k a)) (.p (.int k' b)) = some (.int k (a.fdiv (2 ^ (min b.toNat k.bits)))) := by simp [Ye, QQ, show ¬ b < 0 by omega]
@[go_sem] theorem Zvg {op a b} : Ye P op t (.p (.str a)) (.p (.str b)) = ZiI op a b := Eq.trans rfl rfl
@[go_sem] theorem Zvm {a b} : ZiI .eql a b = some (.bool (decide (a = b))) := Eq.trans rfl rfl
@[go_sem] theorem ZuE {a b} : ZiI .neq a b = some (.bool (decide (¬ a = b))) := by simp [ZiI]
@[go_sem] theorem ZiQ {a b} (h : a.length + b.length <= 9223372036854775807) : ZiI .add a b = some (.str (a ++ b)) := by simp [ZiI, h]
def ZAO (op : BinOp) (u : Option TypeDesc) (a b : Bool) : Option PV := match op, u with
  | .eql, some .bool => some (.bool (a == b))
  | .neq, some .bool => some (.bool (!(a == b)))
  | _, _ => none
end vals
attribute [irreducible] pst mst hst bst
end Go.AM
namespace Go.AM
open Go.RowKit
section vals
variable {P : Program} {H : List Obj} {k : IntKind} {t u : TypeId}
@[go_sem] theorem Zta {op a b} : Ye P op t (.p (.bool a)) (.p (.bool b)) = ZAO op (P.underlying t) a b := Eq.trans rfl rfl
@[go_sem] theorem ZvS {a b} : ZAO .eql (some .bool) a b = some (.bool (a == b)) := Eq.trans rfl rfl
def ZzW (g : Bool) (op : BinOp) (r : Option Bool) : Option PV := if g then none else match op with
 | .eql => r.map .bool
 | .neq => r.map fun r => .bool (!r)
 | _ => none
@[go_sem] theorem Zve {op a b} : Ye P op t (.p (.agg a)) (.p (.agg b)) = ZzW (P.eqGuardType P.depth t) op (QZ P 9 t (.agg a) (.agg b)) := Eq.trans rfl rfl
@[go_sem] theorem Zt5 {b} : ZzW false .eql (some b) = some (.bool b) := Eq.trans rfl rfl
def ZjS (P : Program) (d : Nat) (t : TypeId) (D : Option TypeDesc) (x y : PV) : Option Bool := match D, x, y with
  | some .bool, .bool a, .bool b => some (a == b)
  | some (.int _), .int k a, .int k' b => if k = k' then some (decide (a = b)) else none
  | some .string, .str a, .str b => some (decide (a = b))
  | some (.struct fs), .agg a, .agg b => if P.stoodInHeld t then none else Zcj (QZ P d) P fs.toList a b
  | some (.array n e), .agg a, .agg b => match tsz P e with | some m => ZmS (QZ P d e) P e m n 0 a b | none => none
  | _, _, _ => none
@[go_sem] theorem Zqp {d x y} : QZ P (d + 1) t x y = ZjS P d t (P.underlying t) x y := Eq.trans rfl rfl
@[go_sem] theorem ZrQ {d a b} : ZjS P d t (some .bool) (.bool a) (.bool b) = some (a == b) := Eq.trans rfl rfl
@[go_sem] theorem Zt7 {d k0 a b} : ZjS P d t (some (.int k0)) (.int k a) (.int k b) = some (decide (a = b)) := by simp [ZjS]
theorem Qz {d fs a b} (h : P.stoodInHeld t = false) : ZjS P d t (some (.struct fs)) (.agg a) (.agg b) = Zcj (QZ P d) P fs.toList a b := by simp [ZjS, h]
def ZjR (x y : Option Bool) : Option Bool := x.bind fun p => y.map fun q => p && q
@[go_sem] theorem ZtM {p q} : ZjR (some p) (some q) = some (p && q) := Eq.trans rfl rfl
def eqP (f : PV -> PV -> Option Bool) (x y : Option PV) : Option Bool := x.bind fun x => y.bind fun y => f x y
@[go_sem] theorem Zui {f x y} : eqP f (some x) (some y) = f x y := Eq.trans rfl rfl
@[go_sem] theorem Zcz {f a b} : Zcj f P [] a b = some true := Eq.trans rfl rfl
@[go_sem] theorem KY {f fi r a b} : Zcj f P (fi :: r) a b = if fi.name = "_" then Zcj f P r a b else ZjR (eqP (f fi.type) (apart P fi.type a fi.offset) (apart P fi.type b fi.offset)) (Zcj f P r a b) := by
 simp only [Zcj]
 split
 ·rfl
 ·cases apart P fi.type a fi.offset <;> cases apart P fi.type b fi.offset <;> simp [eqP, ZjR]
  rename_i x y
  cases f fi.type x y <;> cases Zcj f P r a b <;> rfl
def ZAF (g : Option Bool) (s : Option Nat) (cs : List PV) (off : Nat) : Option PV := match g, s with
 | some true, some n => if off + n <= cs.length then some (.agg ((cs.drop off).take n)) else none
 | some false, _ => cs[off]?
 | _, _ => none
@[go_sem] theorem Zum {cs off} : apart P t cs off = ZAF (XR P t) (tsz P t) cs off := Eq.trans rfl rfl
@[go_sem] theorem Zt3 {s cs off} : ZAF (some false) s cs off = cs[off]? := Eq.trans rfl rfl
def Zb8 (g : Option Bool) (s : Option Nat) (H : List Obj) (x : V) : Option V := match g, s with
 | some true, some n => (Wa H x n).map mkA
 | some false, _ => match Wa H x 1 with
  | some (c :: _) => some c
  | _ => none
 | _, _ => none
def hdO (x : Option (List V)) : Option V := match x with | some (c :: _) => some c | _ => none
@[go_sem] theorem Zv6 {c l} : hdO (some (c :: l)) = some c := Eq.trans rfl rfl
@[go_sem] theorem Zur {x} : V1 P H t x = Zb8 (XR P t) (tsz P t) H x := Eq.trans rfl rfl
@[go_sem] theorem Zna {s x} : Zb8 (some false) s H x = hdO (Wa H x 1) := by simp only [Zb8, hdO]
@[go_sem] theorem Znk {n x} : Zb8 (some true) (some n) H x = (Wa H x n).map mkA := Eq.trans rfl rfl
@[go_sem] theorem Ztn {x j n} : Wa H (.lp x j) n = if j + n <= x.cells.length then some (((x.cells.drop j).take n).map .p) else none := Eq.trans rfl rfl
def ZjA (ob : Obj) (off n : Nat) : Option (List V) := match ob with | .cells cs => if off + n <= cs.length then some ((cs.drop off).take n) else none | _ => none
@[go_sem] theorem ZmR {o off n} : Wa H (.ptr o off) n = ZjA (oat H o) off n := Eq.trans rfl rfl
@[go_sem] theorem ZjG {cs off n} : ZjA (.cells cs) off n = if off + n <= cs.length then some ((cs.drop off).take n) else none := Eq.trans rfl rfl
def Zjk (ob : Obj) (i j tot n : Nat) : Option (List V) := match ob with
 | .elems _ xs => if xs.length = tot /\ i < xs.length /\ j + n <= (elt xs i).cells.length then some ((((elt xs i).cells.drop j).take n).map .p) else none
 | _ => none
@[go_sem] theorem ZqW {o i j tot n} : Wa H (.ep o i j tot) n = Zjk (oat H o) i j tot n := Eq.trans rfl rfl
@[go_sem] theorem ZjF {S xs i j tot n} : Zjk (.elems S xs) i j tot n = if xs.length = tot /\ i < xs.length /\ j + n <= (elt xs i).cells.length then some ((((elt xs i).cells.drop j).take n).map .p) else none := Eq.trans rfl rfl
@[go_sem] theorem ZnL {cs} : (PV.agg cs).cells = cs := Eq.trans rfl rfl
@[go_sem] theorem ZrH {n} : (PV.int k n).cells = [.int k n] := Eq.trans rfl rfl
@[go_sem] theorem ZnC {b} : (PV.bool b).cells = [.bool b] := Eq.trans rfl rfl
@[go_sem] theorem ZsX {s} : (PV.str s).cells = [.str s] := Eq.trans rfl rfl
@[go_sem] theorem Zm3 {c xs} : (PV.list c xs).cells = [.list c xs] := Eq.trans rfl rfl
@[go_sem] theorem Zzb {n} : (PV.int k n).one = true := Eq.trans rfl rfl
@[go_sem] theorem Zuj {b} : (PV.bool b).one = true := Eq.trans rfl rfl
@[go_sem] theorem Zyj {s} : (PV.str s).one = true := Eq.trans rfl rfl
@[go_sem] theorem ZtZ {c xs} : (PV.list c xs).one = true := Eq.trans rfl rfl
@[go_sem] theorem ZAu {cs} : mkA cs = match QS cs with | some ps => .p (.agg ps) | none => .agg cs := Eq.trans rfl rfl
@[go_sem] theorem ZuH : QS [] = some [] := Eq.trans rfl rfl
@[go_sem] theorem Zoh {x r} : QS (.p x :: r) = (QS r).map (x :: ·) := by simp only [QS]
def J0 (n : Option Nat) (a : Bool) (x : V) : Option V := match n with | some n => if a then some (JJ n x) else none | none => none
@[go_sem] theorem ZtJ {s f x} : Vz P H s f x = J0 (Z4 P s f) (YV H x) x := Eq.trans rfl rfl
@[go_sem] theorem ZjO {n x} : J0 (some n) true x = some (JJ n x) := Eq.trans rfl rfl
@[go_sem] theorem Zug {n x j} : JJ n (.lp x j) = .lp x (j + n) := Eq.trans rfl rfl
@[go_sem] theorem Zss {n o off} : JJ n (.ptr o off) = .ptr o (off + n) := Eq.trans rfl rfl
@[go_sem] theorem Zv0 {n o i j tot} : JJ n (.ep o i j tot) = .ep o i (j + n) tot := Eq.trans rfl rfl
def Zfe (ob : Obj) : Bool := match ob with | .cells _ => true | _ => false
@[go_sem] theorem ZiO {cs} : Zfe (.cells cs) = true := Eq.trans rfl rfl
def Ke (ob : Obj) (tot : Nat) : Bool := match ob with | .elems _ xs => decide (xs.length = tot) | _ => false
@[go_sem] theorem Zjc {S xs tot} : Ke (.elems S xs) tot = decide (xs.length = tot) := Eq.trans rfl rfl
@[go_sem] theorem Zt0 {x j} : YV H (.lp x j) = true := Eq.trans rfl rfl
@[go_sem] theorem Zm4 {o off} : YV H (.ptr o off) = Zfe (oat H o) := Eq.trans rfl rfl
@[go_sem] theorem Zvq {o i j tot} : YV H (.ep o i j tot) = Ke (oat H o) tot := Eq.trans rfl rfl
def W5 (e : Option (Option Nat × Nat)) (H : List Obj) (x i : V) : Option V := match e, i with
 | some (none, S), .p (.int _ n) => match x with
  | .p (.list _ xs) => if 0 <= n /\ n < xs.length then (if (elt xs n.toNat).cells.length = S then some (.lp (elt xs n.toNat) 0) else none) else none
  | .sl o off len tot => match oat H o with
   | .elems S' xs => if xs.length = tot /\ S' = S then (if 0 <= n /\ n < len then some (.ep o (off + n.toNat) 0 tot) else none) else none
   | .cells _ => if S = 1 /\ off = 0 /\ len = tot /\ 0 <= n /\ n < len then some (.ptr o n.toNat) else none
   | _ => none
  | _ => none
 | some (some k, S), .p (.int _ n) => if 0 <= n /\ n < k then (if YV H x then some (JJ (n.toNat * S) x) else none) else none
 | _, _ => none
@[go_sem] theorem ZqL {x i} : WW P H t x i = W5 (YG P t) H x i := Eq.trans rfl rfl
theorem K3 {S c xs n} (h0 : 0 <= n) (h1 : n < (List.length xs : Int)) : W5 (some (none, S)) H (.p (.list c xs)) (.p (.int k n)) = if (elt xs n.toNat).cells.length = S then some (.lp (elt xs n.toNat) 0) else none := by
 simp only [W5]; rw [if_pos ⟨h0, h1⟩]
def nth {α : Type} [Inhabited α] (l : List α) (i : Nat) : α := l.getD i default
theorem Xb {α : Type} [Inhabited α] {f : α -> PV} {l : List α} {i : Nat} (h : i < l.length) : elt (l.map f) i = f (nth l i) := by
 simp [elt, nth, h]
theorem Ze {α : Type} [Inhabited α] {l : List α} {i : Nat} (h : i < l.length) : nth l i = l[i] := by simp [nth, h]
@[go_sem] theorem Zk3 {α : Type} [Inhabited α] {f : α -> PV} {l : List α} {S c n} (h0 : 0 <= n) (h1 : n < (l.length : Int)) :
  W5 (some (none, S)) H (.p (.list c (l.map f))) (.p (.int k n)) = if (f (nth l n.toNat)).cells.length = S then some (.lp (f (nth l n.toNat)) 0) else none := by
 rw [K3 h0 (by simpa using h1), Xb (by omega)]
def Zfc (ob : Obj) (S o off len tot : Nat) (n : Int) : Option V := match ob with
 | .elems S' xs => if xs.length = tot /\ S' = S then (if 0 <= n /\ n < len then some (.ep o (off + n.toNat) 0 tot) else none) else none
 | .cells _ => if S = 1 /\ off = 0 /\ len = tot /\ 0 <= n /\ n < len then some (.ptr o n.toNat) else none
 | _ => none
@[go_sem] theorem ZnD {S o off len tot n} : W5 (some (none, S)) H (.sl o off len tot) (.p (.int k n)) = Zfc (oat H o) S o off len tot n := Eq.trans rfl rfl
@[go_sem] theorem ZtT {S xs o off} {len tot : Nat} {n : Int} (h0 : 0 <= n) (h1 : n < (len : Int)) (ht : xs.length = tot) : Zfc (.elems S xs) S o off len tot n = some (.ep o (off + n.toNat) 0 tot) := by
 simp only [Zfc]; simp [ht, h0, h1]
@[go_sem] theorem Zmn {n} {m S : Nat} {x} (h0 : 0 <= n) (h1 : n < (m : Int)) : W5 (some (some m, S)) H x (.p (.int k n)) = J0 (some (n.toNat * S)) (YV H x) x := by
 simp only [W5, J0]; rw [if_pos ⟨h0, h1⟩]
def Zhy (H : List Obj) (D : Option TypeDesc) (x : V) : Option PV := match D, x with
 | some (.slice _), .p (.list _ xs) => some (.int .i64 xs.length)
 | some (.slice _), .sl o _ len tot => match oat H o with
  | .elems _ xs => if xs.length = tot then some (.int .i64 len) else none
  | _ => none
 | some .string, .p (.str s) => some (.int .i64 s.length)
 | some (.array n _), _ => some (.int .i64 n)
 | _, _ => none
@[go_sem] theorem Zww {x} : ZrL P H t x = Zhy H (P.underlying t) x := Eq.trans rfl rfl
@[go_sem] theorem ZnJ {e c xs} : Zhy H (some (.slice e)) (.p (.list c xs)) = some (.int .i64 (List.length xs)) := Eq.trans rfl rfl
def ZAK (ob : Obj) (len tot : Nat) : Option PV := match ob with | .elems _ xs => if xs.length = tot then some (.int .i64 len) else none | _ => none
@[go_sem] theorem ZvN {e o off len tot} : Zhy H (some (.slice e)) (.sl o off len tot) = ZAK (oat H o) len tot := Eq.trans rfl rfl
@[go_sem] theorem ZmY {S xs len tot} : ZAK (.elems S xs) len tot = if xs.length = tot then some (.int .i64 len) else none := Eq.trans rfl rfl
@[go_sem] theorem Zrm {s} : Zhy H (some .string) (.p (.str s)) = some (.int .i64 (List.length s)) := Eq.trans rfl rfl
@[go_sem] theorem ZxR {b} : aun .not (.p (.bool b)) = some (.bool (!b)) := Eq.trans rfl rfl
@[go_sem] theorem ZwH {n} : aun .neg (.p (.int k n)) = some (.int k (k.wrap (0 - n))) := Eq.trans rfl rfl
def ZjM (D E : Option TypeDesc) (x : V) : Option PV := match D, E, x with
 | some _, some (.int k), .p (.int _ n) => some (.int k (k.wrap n))
 | some (.int _), some .string, .p (.int _ n) => if 0 <= n /\ n < 128 then some (.str [UInt8.ofNat n.toNat]) else none
 | some .string, some .string, .p (.str b) => some (.str b)
 | _, _, _ => none
@[go_sem] theorem Zvw {s x} : ZfR P s t x = ZjM (P.underlying s) (P.underlying t) x := Eq.trans rfl rfl
@[go_sem] theorem ZmT {D k' n} : ZjM (some D) (some (.int k)) (.p (.int k' n)) = some (.int k (k.wrap n)) := by cases D <;> rfl
def Zbd (E : Option TypeDesc) (H : List Obj) (x : V) : Option PV := match E, x with
  | some (.int .u8), .p (.list _ xs) => (Xn xs).map .str
  | some (.int .u8), .sl o off len tot => match oat H o with
   | .elems _ xs => if xs.length = tot /\ off + len <= tot then (Xn ((xs.take (off + len)).drop off)).map .str else none
   | _ => none
  | _, _ => none
def ZbQ (P : Program) (H : List Obj) (D E : Option TypeDesc) (x : V) : Option PV := match D, E with
 | some (.slice e), some .string => Zbd (P.underlying e) H x
 | _, _ => none
@[go_sem] theorem ZpE {s x} : Je P H s t x = ZbQ P H (P.underlying s) (P.underlying t) x := Eq.trans rfl rfl
@[go_sem] theorem Zl9 {E x} : ZbQ P H (some (.int k)) E x = none := Eq.trans rfl rfl
@[go_sem] theorem Zig {e x} : ZbQ P H (some (.slice e)) (some .string) x = Zbd (P.underlying e) H x := Eq.trans rfl rfl
def ZjT (ob : Obj) (off len tot : Nat) : Option PV := match ob with | .elems _ xs => if xs.length = tot /\ off + len <= tot then (Xn ((xs.take (off + len)).drop off)).map .str else none | _ => none
@[go_sem] theorem ZnG {o off len tot} : Zbd (some (.int .u8)) H (.sl o off len tot) = ZjT (oat H o) off len tot := Eq.trans rfl rfl
@[go_sem] theorem ZjI {S xs off len tot} : ZjT (.elems S xs) off len tot = if xs.length = tot /\ off + len <= tot then (Xn ((xs.take (off + len)).drop off)).map .str else none := Eq.trans rfl rfl
@[go_sem] theorem Zku : Xn [] = some [] := Eq.trans rfl rfl
@[go_sem] theorem ZjP {n r} : Xn (.int .u8 n :: r) = (Xn r).map (UInt8.ofNat n.toNat :: ·) := by simp [Xn]
@[go_sem] theorem Zx1 {a b : Int} (h : 0 <= a) : a.tdiv b = a / b := Int.tdiv_eq_ediv_of_nonneg h
@[go_sem] theorem Zwo {a b : Int} (h : 0 <= a) : a.tmod b = a % b := Int.tmod_eq_emod_of_nonneg h
@[go_sem] theorem ZA3 {cs} : vc H (.p (.agg cs)) = if cs.all (·.one) = true then some (cs.map .p) else none := by simp only [vc]
@[go_sem] theorem Zwm {cs} : vc H (.agg cs) = if cs.all (V.one H) = true then some cs else none := by simp only [vc]
@[go_sem] theorem Zzt {n} : vc H (.p (.int k n)) = some [.p (.int k n)] := Eq.trans rfl rfl
@[go_sem] theorem ZyV {n} : vc H (.p (.bool n)) = some [.p (.bool n)] := Eq.trans rfl rfl
@[go_sem] theorem Zz9 {n} : vc H (.p (.str n)) = some [.p (.str n)] := Eq.trans rfl rfl
@[go_sem] theorem Zzf {c xs} : vc H (.p (.list c xs)) = some [.p (.list c xs)] := Eq.trans rfl rfl
@[go_sem] theorem ZBA {o off len tot} : vc H (.sl o off len tot) = if Ke (oat H o) tot = true then some [.sl o off len tot] else none := Eq.trans rfl rfl
@[go_sem] theorem Zz1 {x} : V.one H (.p x) = x.one := Eq.trans rfl rfl
@[go_sem] theorem Zyk {o off len tot} : V.one H (.sl o off len tot) = Ke (oat H o) tot := Eq.trans rfl rfl
@[go_sem] theorem ZBu {o} : vc H (.mp o) = if Zlv (oat H o) = true then some [.mp o] else none := Eq.trans rfl rfl
@[go_sem] theorem Zs4 {es} : Zlv (.map es) = true := Eq.trans rfl rfl
@[go_sem] theorem ZwL {α : Type} {n} {cs : List α} : spl ([] : List α) n cs = [] := by cases cs <;> cases n <;> simp [spl]
@[go_sem] theorem Zuf {α : Type} {x c : α} {l cs} : spl (x :: l) 0 (c :: cs) = c :: spl l 0 cs := by simp [spl]
@[go_sem] theorem Zth {α : Type} {x : α} {l} : spl (x :: l) 0 [] = x :: l := by simp [spl]
@[go_sem] theorem ZuK {α : Type} {x : α} {l cs n} : spl (x :: l) (n + 1) cs = x :: spl l n cs := by simp [spl]
def ZjC (H : List Obj) (o : Nat) (ob : Obj) (off n : Nat) (cs : List V) : Option (List Obj) := match ob with
 | .cells old => if off + n <= old.length then some (ost H o (.cells (spl old off cs))) else none
 | _ => none
@[go_sem] theorem ZmO {n o off cs} : Ut H n (.ptr o off) cs = if cs.length = n then ZjC H o (oat H o) off n cs else none := Eq.trans rfl rfl
@[go_sem] theorem ZjU {o old off n cs} : ZjC H o (.cells old) off n cs = if off + n <= old.length then some (ost H o (.cells (spl old off cs))) else none := Eq.trans rfl rfl
def Ze6 (H : List Obj) (o : Nat) (ob : Obj) (i j tot n : Nat) (ps : Option (List PV)) : Option (List Obj) := match ob, ps with
 | .elems S xs, some ps => if xs.length = tot /\ i < xs.length /\ j + n <= (elt xs i).cells.length /\ ps.all (·.one) = true /\ (elt xs i).cells.all (·.one) = true then
   some (ost H o (.elems S (xs.set i (mkE (elt xs i) (spl (elt xs i).cells j ps))))) else none
 | _, _ => none
@[go_sem] theorem ZoJ {n o i j tot cs} : Ut H n (.ep o i j tot) cs = if cs.length = n then Ze6 H o (oat H o) i j tot n (QS cs) else none := Eq.trans rfl rfl
@[go_sem] theorem Znr {α : Type} [Inhabited α] {f : α -> PV} {l : List α} {o S i j tot n ps} (ht : l.length = tot) (hi : i < l.length) : Ze6 H o (.elems S (l.map f)) i j tot n (some ps) =
  if j + n <= (f (nth l i)).cells.length /\ ps.all (·.one) = true /\ (f (nth l i)).cells.all (·.one) = true then
   some (ost H o (.elems S ((l.map f).set i (mkE (f (nth l i)) (spl (f (nth l i)).cells j ps))))) else none := by
 simp only [Ze6, Xb hi]
 have h1 : (l.map f).length = tot := by simpa using ht
 have h2 : i < (l.map f).length := by simpa using hi
 simp only [h1, h2, true_and];subst ht;simp [hi]
@[go_sem] theorem Zyv {a cs} : mkE (.agg a) cs = .agg cs := Eq.trans rfl rfl
@[go_sem] theorem Zy8 {n c l} : mkE (.int k n) (c :: l) = c := Eq.trans rfl rfl
@[go_sem] theorem Zu9 {n c l} : mkE (.bool n) (c :: l) = c := Eq.trans rfl rfl
@[go_sem] theorem ZrT {l} : KP P H t l = match ZV P t, tpl P t with
 | some zs, some pl => (QA H pl (zs.map .p) l).map mkA
 | _, _ => none := Eq.trans rfl rfl
@[go_sem] theorem Zod {pl cs} : QA H pl cs [] = some cs := by simp [QA]
def Zjm (H : List Obj) (pl : Nat -> Option (Nat × Nat)) (cs : List V) (r : List (Nat × V)) (q : Option (Nat × Nat)) (vs : Option (List V)) : Option (List V) := match q, vs with
 | some (off, sz), some vs => if vs.length = sz /\ off + sz <= cs.length then QA H pl (spl cs off vs) r else none
 | _, _ => none
@[go_sem] theorem Znx {pl cs i v r} : QA H pl cs ((i, v) :: r) = Zjm H pl cs r (pl i) (vc H v) := Eq.trans rfl rfl
@[go_sem] theorem ZlY {pl cs off sz vs r} : Zjm H pl cs r (some (off, sz)) (some vs) = if vs.length = sz /\ off + sz <= cs.length then QA H pl (spl cs off vs) r else none := Eq.trans rfl rfl
@[go_sem] theorem ZzK {l i} : plL l i = l[i]? := Eq.trans rfl rfl
@[go_sem] theorem ZAv {n i} : plA n i = some (i * n, n) := Eq.trans rfl rfl
end vals
end Go.AM
namespace Go.AM
open Go.RowKit
section
variable {P : Program} {H : List Obj} {k : IntKind} {t u : TypeId} {fr : List V}
def Zl5 (S : Option Nat) (H : List Obj) (n : Nat) (l : List (Nat × V)) : Option (V × List Obj) := match S with
 | some S => if n = l.length /\ n * S <= 16777216 /\ 0 < S then (QV H S 0 l).map fun xs => (.sl H.length 0 n n, H ++ [.elems S xs]) else none
 | none => none
@[go_sem] theorem Zun {n l} : WT P (.buildSlice t n (List.toArray l)) fr H = Zl5 (UX P t) H n (l.map fun x => (x.1, ev fr x.2)) := by
 simp only [WT, UX, Zl5]
 cases P.underlying t with
 | none => rfl
 | some D =>
  cases D <;> try rfl
  rename_i e;simp only []
  cases (P.info? e).bind (·.zero) with
  | none => rfl
  | some z =>
   simp only [Zmr]
   cases YG P t with
   | none => rfl
   | some q => obtain ⟨a, b⟩ := q; cases a <;> rfl
@[go_sem] theorem Zm2 {S n l} : Zl5 (some S) H n l = if n = l.length /\ n * S <= 16777216 /\ 0 < S then (QV H S 0 l).map fun xs => (.sl H.length 0 n n, H ++ [.elems S xs]) else none := Eq.trans rfl rfl
@[go_sem] theorem Zv2 {S n} : QV H S n [] = some [] := by simp [QV]
@[go_sem] theorem ZnT {S n i x r} : QV H S n ((i, .p x) :: r) = if i = n then if x.cells.length = S /\ x.cells.all (·.one) = true then (QV H S (n + 1) r).map (x :: ·) else none else none := by simp only [QV, pvo]
@[go_sem] theorem Zwy {S n i f r} : QV H S n ((i, .fn (.func f) [] []) :: r) = if i = n then if 1 = S then (QV H S (n + 1) r).map (.fn f :: ·) else none else none := by simp [QV, pvo, PV.cells, PV.one]
def Zbm (P : Program) (t : TypeId) : Option (Nat × Nat) := match P.underlying t with
 | some (.slice e) => match tsz P e, QG P e, (P.info? e).map (·.bytes) with
  | some S, some z, some by' => if 0 < S /\ z.cells.length = S /\ z.cells.all (·.one) = true /\ by' ≠ 0 then some (S, by') else none
  | _, _, _ => none
 | _ => none
theorem ZcA {S by'} (h : Zbm P t = some (S, by')) : ∃ e z, P.underlying t = some (.slice e) /\ tsz P e = some S /\ QG P e = some z /\ (P.info? e).map (·.bytes) = some by' /\ 0 < S /\ z.cells.length = S /\ z.cells.all (·.one) = true /\ by' ≠ 0 := by
 unfold Zbm at h
 split at h
 ·rename_i e hu
  split at h
  ·rename_i S' z b h1 h2 h3
   split at h
   ·rename_i hc;simp at h; obtain ⟨rfl, rfl⟩ := h;exact ⟨e, z, hu, h1, h2, h3, hc⟩
   ·cases h
  ·cases h
 ·cases h
def Wd (D : Option TypeDesc) (H : List Obj) (y : V) : Option (List PV) := match D, y with
 | some (.slice _), .p (.list _ ys) => some ys
 | some (.slice _), .sl o off len tot => match oat H o with
  | .elems _ xs => if xs.length = tot /\ off + len <= tot then some ((xs.take (off + len)).drop off) else none
  | _ => none
 | some .string, .p (.str s) => some (s.map fun b => .int .u8 b.toNat)
 | _, _ => none
def ZtL (ob : Obj) (off len tot : Nat) : Option (List PV) := match ob with | .elems _ xs => if xs.length = tot /\ off + len <= tot then some ((xs.take (off + len)).drop off) else none | _ => none
@[go_sem] theorem Znz {e c ys} : Wd (some (.slice e)) H (.p (.list c ys)) = some ys := Eq.trans rfl rfl
@[go_sem] theorem Zt2 {e o off len tot} : Wd (some (.slice e)) H (.sl o off len tot) = ZtL (oat H o) off len tot := Eq.trans rfl rfl
theorem ZcH {S xs n} (h : List.length xs = n) : ZtL (.elems S xs) 0 n n = some xs := by subst h; simp [ZtL]
def Znb (H : List Obj) (F : Option (Nat × Nat)) (ys : Option (List PV)) : Option (V × List Obj) := match F, ys with
 | some (S, by'), some ys => if okE S ys = true /\ ys.length * by' <= 140737488355328 /\ ys.length <= 140737488355328 then some (.sl H.length 0 ys.length ys.length, H ++ [.elems S ys]) else none
 | _, _ => none
def Q7 (H : List Obj) (F : Option (Nat × Nat)) (ob : Obj) (o n : Nat) (ys : Option (List PV)) : Option (V × List Obj) := match F, ob, ys with
 | some (S, by'), .elems S' xs, some ys => if S' = S /\ xs.length = n /\ okE S ys = true /\ (n + ys.length) * by' <= 140737488355328 /\ n + ys.length <= 140737488355328 then
   some (.sl o 0 (n + ys.length) (n + ys.length), ost H o (.elems S (xs ++ ys))) else none
 | _, _, _ => none
theorem ZeM {z x y ys e S by'} (h1 : P.underlying t = some (.slice e)) (h2 : tsz P e = some S) (h3 : QG P e = some z) (h4 : (P.info? e).map (·.bytes) = some by') (h5 : Zj7 P H u y = some ys) (h6 : 0 < S /\ z.cells.length = S /\ z.cells.all (·.one) = true /\ by' ≠ 0) :
  QE P H t u x y = if okE S ys = true then (match x with
    | .p (.list cl xs) => if cl = true /\ okE S xs = true /\ (xs = [] \/ 0 < ys.length) /\ (xs.length + ys.length) * by' <= 140737488355328 /\ xs.length + ys.length <= 140737488355328 then
      some (.sl H.length 0 (xs.length + ys.length) (xs.length + ys.length), H ++ [.elems S (xs ++ ys)]) else none
    | .sl o off len tot => match oat H o with
     | .elems S' xs => if S' = S /\ off = 0 /\ len = tot /\ xs.length = tot /\ (tot + ys.length) * by' <= 140737488355328 /\ tot + ys.length <= 140737488355328 then
       some (.sl o 0 (tot + ys.length) (tot + ys.length), ost H o (.elems S (xs ++ ys))) else none
     | _ => none
    | _ => none) else none := by
 simp only [QE, h1, h2, h3, h4, h5]
 by_cases hc : okE S ys = true
 ·rw [if_pos hc, if_pos ⟨h6.1, h6.2.1, h6.2.2.1, h6.2.2.2, hc⟩]
  cases x with
  | p x => cases x <;> rfl
  | _ => rfl
 ·rw [if_neg hc, if_neg (fun h => hc h.2.2.2.2)]
theorem Zcl {y F} (hF : Zbm P t = some F) : QE P H t u (.p (.list true [])) y = Znb H (some F) (Wd (P.underlying u) H y) := by
 obtain ⟨S, by'⟩ := F;obtain ⟨e, z, h1, h2, h3, h4, h6⟩ := ZcA hF;have e1 : Wd (P.underlying u) H y = Zj7 P H u y := Eq.trans rfl rfl;rw [e1]
 cases h5 : Zj7 P H u y with
 | none => simp [QE, h1, h2, h3, h4, h5, Znb]
 | some ys =>
  rw [ZeM h1 h2 h3 h4 h5 h6];simp only [Znb, okE]
  by_cases hc : ys.all (Zq7 S) = true
  ·simp [hc]
  ·simp [hc]
theorem X3 {y F o n} (hF : Zbm P t = some F) : QE P H t u (.sl o 0 n n) y = Q7 H (some F) (oat H o) o n (Wd (P.underlying u) H y) := by
 obtain ⟨S, by'⟩ := F;obtain ⟨e, z, h1, h2, h3, h4, h6⟩ := ZcA hF;have e1 : Wd (P.underlying u) H y = Zj7 P H u y := Eq.trans rfl rfl;rw [e1]
 cases h5 : Zj7 P H u y with
 | none =>
  simp only [QE, h1, h2, h3, h4, h5, Q7]
  cases oat H o <;> rfl
 | some ys =>
  rw [ZeM h1 h2 h3 h4 h5 h6];simp only [Q7]
  cases oat H o with
  | elems S' xs =>
   by_cases hc : okE S ys = true
   ·simp [hc]
   ·simp [hc]
  | cells cs => simp
  | map es => simp
  | bld T E r bs => simp
  | dead => simp
@[go_sem] theorem ZpR {S b ys} : Znb H (some (S, b)) (some ys) = if okE S ys = true /\ ys.length * b <= 140737488355328 /\ ys.length <= 140737488355328 then some (.sl H.length 0 ys.length ys.length, H ++ [.elems S ys]) else none := Eq.trans rfl rfl
theorem Zaj {S b xs ys o n} (hn : xs.length = n) (hb : (n + ys.length) * b <= 140737488355328) (hb2 : n + ys.length <= 140737488355328) : Q7 H (some (S, b)) (.elems S xs) o n (some ys) = if okE S ys = true then some (.sl o 0 (n + ys.length) (n + ys.length), ost H o (.elems S (xs ++ ys))) else none := by
 simp only [Q7]
 by_cases hc : okE S ys = true
 ·rw [if_pos ⟨trivial, hn, hc, hb, hb2⟩, if_pos hc]
 ·rw [if_neg (fun h => hc h.2.2.1), if_neg hc]
@[go_sem] theorem Zv1 {α : Type} {S} {f : α -> PV} {l : List α} : ZtL (.elems S (l.map f)) 0 l.length l.length = some (l.map f) := ZcH (by simp)
@[go_sem] theorem ZuR {S x} : ZtL (.elems S [x]) 0 1 1 = some [x] := ZcH (by simp)
@[go_sem] theorem ZqX {α : Type} {S b o x} {f : α -> PV} {l : List α} (hb : (l.length + 1) * b <= 140737488355328) (hb2 : l.length + 1 <= 140737488355328) : Q7 H (some (S, b)) (.elems S (l.map f)) o l.length (some [x]) = if okE S [x] = true then some (.sl o 0 (l.length + 1) (l.length + 1), ost H o (.elems S (l.map f ++ [x]))) else none :=
 Zaj (by simp) (by simpa using hb) (by simpa using hb2)
@[go_sem] theorem Zsh {α β : Type} {S b o} {f : α -> PV} {g : β -> PV} {l : List α} {m : List β} (hb : (l.length + m.length) * b <= 140737488355328) (hb2 : l.length + m.length <= 140737488355328) : Q7 H (some (S, b)) (.elems S (l.map f)) o l.length (some (m.map g)) = if okE S (m.map g) = true then some (.sl o 0 (l.length + m.length) (l.length + m.length), ost H o (.elems S (l.map f ++ m.map g))) else none := by
 have := @Zaj H S b (l.map f) (m.map g) o l.length (by simp) (by simpa using hb) (by simpa using hb2);simpa using this
@[go_sem] theorem Zxw {S} : okE S [] = true := Eq.trans rfl rfl
@[go_sem] theorem Zu2 {S x l} : okE S (x :: l) = ((x.cells.length == S) && x.cells.all (·.one) && okE S l) := by simp [okE, Zq7]
theorem Qw {α : Type} {S} {f : α -> PV} {l : List α} (h : ∀ x, Zq7 S (f x) = true) : okE S (l.map f) = true := by simp [okE]; intro x _; exact h x
def Zi2 (P : Program) (t : TypeId) : Option (Nat × Nat × PV) := match P.underlying t with
  | some (.slice e) => match tsz P e, QG P e, (P.info? e).map (·.bytes) with
   | some S, some z, some by' => if z.cells.all (·.one) = true /\ z.cells.length = S /\ 0 < S then some (S, by', z) else none
   | _, _, _ => none
  | _ => none
end
def Yt : Nat -> List Nat -> List V -> List V
 | _, _, [] => []
 | i, [], _ :: l => .junk :: Yt (i + 1) [] l
 | i, k :: ks, x :: l => if i = k then x :: Yt (i + 1) ks l else .junk :: Yt (i + 1) (k :: ks) l
def XV : List (Nat × V) -> List V -> List V
 | [], fr => fr
 | (i, v) :: r, fr => XV r (pt fr i v)
@[go_sem] theorem ZsV {i ks} : Yt i ks [] = [] := by cases ks <;> simp [Yt]
@[go_sem] theorem Zng {i x l} : Yt i [] (x :: l) = .junk :: Yt (i + 1) [] l := by simp [Yt]
@[go_sem] theorem Zno {i k ks x l} : Yt i (k :: ks) (x :: l) = if i = k then x :: Yt (i + 1) ks l else .junk :: Yt (i + 1) (k :: ks) l := by simp [Yt]
@[go_sem] theorem ZCd : ((0 : Nat) : Int) = 0 := Eq.trans rfl rfl
@[go_sem] theorem ZBr {n : Nat} : ((n + 1 : Nat) : Int) = (n : Int) + 1 := Eq.trans rfl rfl
@[go_sem] theorem ZAZ {n : Nat} : ((n : Int)).toNat = n := Eq.trans rfl rfl
@[go_sem] theorem ZuV {fr} : XV [] fr = fr := by simp [XV]
@[go_sem] theorem Zsg {i v r fr} : XV ((i, v) :: r) fr = XV r (pt fr i v) := by simp [XV]
@[go_sem] theorem Zyh {p q : Prop} [Decidable p] [Decidable q] : (decide p && decide q) = decide (p /\ q) := by simp
@[go_sem] theorem Zp0 {p q : Prop} [Decidable p] [Decidable q] : (decide p || decide q) = decide (p \/ q) := by simp
theorem Zf {P c fr H Q} {I : Type} (ks : List Nat) (sets : I -> List (Nat × V)) (hs : I -> List Obj) (R : I -> Prop) (μ : I -> Nat) (i0 : I) (hR : R i0) (h0 : Weak H.length fr H (XV (sets i0) (Yt 0 ks fr)) (hs i0))
  (round : ∀ i, R i -> awp [] P c (XV (sets i) (Yt 0 ks fr)) (hs i) (Ul (fun fr' H' => ∃ i', R i' /\ μ i' < μ i /\ Weak H.length fr' H' (XV (sets i') (Yt 0 ks fr)) (hs i')) Q)) : AWP P (.loop c) fr H Q :=
 ZcQ R (fun i => XV (sets i) (Yt 0 ks fr)) hs μ i0 hR h0 fun i hi => Zd [] _ _ _ _ (round i hi)
theorem ZI {P c fr H Q} (cuts : List Nat) {I : Type} (ks : List Nat) (sets : I -> List (Nat × V)) (hs : I -> List Obj) (R : I -> Prop) (μ : I -> Nat) (i0 : I) (hR : R i0) (h0 : Weak H.length fr H (XV (sets i0) (Yt 0 ks fr)) (hs i0))
  (round : ∀ i, R i -> awp cuts P c (XV (sets i) (Yt 0 ks fr)) (hs i) (Ul (fun fr' H' => ∃ i', R i' /\ μ i' < μ i /\ Weak H.length fr' H' (XV (sets i') (Yt 0 ks fr)) (hs i')) Q)) : AWP P (.loop c) fr H Q :=
 ZcQ R (fun i => XV (sets i) (Yt 0 ks fr)) hs μ i0 hR h0 fun i hi => Zd cuts _ _ _ _ (round i hi)
theorem Zo {P x y fr H Q} {I : Type} (ks : List Nat) (sets : I -> List (Nat × V)) (hs : I -> List Obj) (R : I -> Prop)
  (h : awp [] P x fr H (Ul (fun fr' H' => ∃ i, R i /\ Weak H.length fr' H' (XV (sets i) (Yt 0 ks fr)) (hs i)) Q)) (k : ∀ i, R i -> AWP P y (XV (sets i) (Yt 0 ks fr)) (hs i) Q) : AWP P (.seq x y) fr H Q :=
 fun F ι a w hr hf => by
 refine wp_seq (wp_mono (Zd [] _ _ _ _ h F ι a w hr hf) ?_);rintro e a' w' ⟨fr', H', ι', q, g, f⟩
 cases e with
 | normal =>
  obtain ⟨i, hi, hw⟩ := q;obtain ⟨ι2, r2, f2, g2⟩ := hw F ι' a' w' g.rel f;refine wp_mono (k i hi F ι2 a' w' r2 f2) ?_;rintro e2 a2 w2 ⟨fr2, H2, ι3, q2, g3, f3⟩;exact ⟨fr2, H2, ι3, q2, (g2 H ι w (Nat.le_refl _) g).trans g3, f3⟩
 | exit id => exact ⟨fr', H', ι', q, g, f⟩
 | goto l => exact ⟨fr', H', ι', q, g, f⟩
 | ret => exact ⟨fr', H', ι', q, g, f⟩
 | panic ch => exact ⟨fr', H', ι', q, g, f⟩
 | outgrown => exact ⟨fr', H', ι', q, g, f⟩
@[go_sem] theorem Zv5 {H n x} : wkV H n x .junk = True := by simp [wkV]
@[go_sem] theorem ZzH {H n} {x y : PV} : wkV H n (.p x) (.p y) = (y = x) := by simp [wkV, refB, frz]
@[go_sem] theorem ZxN {H n o off len tot o' off' len' tot'} : wkV H n (.sl o off len tot) (.sl o' off' len' tot') = ((o' = o /\ off' = off /\ len' = len /\ tot' = tot) /\ o < n) := by simp [wkV, refB]
@[go_sem] theorem ZuX {H n o off o' off'} : wkV H n (.ptr o off) (.ptr o' off') = ((o' = o /\ off' = off) /\ o < n) := by simp [wkV, refB]
@[go_sem] theorem ZyR {H n} : wkF H n [] [] = True := by simp [wkF]
@[go_sem] theorem ZvP {H n x l x' l'} : wkF H n (x :: l) (x' :: l') = (wkV H n x x' /\ wkF H n l l') := by simp [wkF]
@[go_sem] theorem Zwq {H n l} : wkH H n l [] = True := by simp [wkH]
@[go_sem] theorem Zvh {H n x l x' l'} : wkH H n (x :: l) (x' :: l') = (wkO H n x x' /\ wkH H n l l') := by simp [wkH]
@[go_sem] theorem ZrP {H n cs cs'} : wkO H n (.cells cs) (.cells cs') = wkF H n cs cs' := by simp [wkO]
@[go_sem] theorem Ztg {H n S S' xs xs'} : wkO H n (.elems S xs) (.elems S' xs') = (S = S' /\ xs = xs') := by simp [wkO]
@[go_sem] theorem Zxs {H n es es2} : wkO H n (.map es) (.map es2) = (es = es2) := by simp [wkO]
@[go_sem] theorem ZBa {H n o o2} : wkV H n (.mp o) (.mp o2) = (o2 = o /\ o < n) := by simp [wkV, refB, frz]
@[go_sem] theorem Zvb {H n} : wkO H n .dead .dead = True := by simp [wkO]
theorem Weak.mk {n0 fr H fr' H'} (h : n0 <= H'.length /\ H'.length <= H.length /\ wkF H H'.length fr fr' /\ wkH H H'.length H H') : Weak n0 fr H fr' H' := Weak.of h.1 h.2.2.1 h.2.2.2 h.2.1
theorem wk {n0 fr H fr' H'} (h : n0 <= H'.length /\ H'.length <= H.length /\ wkF H H'.length fr fr' /\ wkH H H'.length H H' := by simp (disch := omega) only [go_sem, seval]) : Weak n0 fr H fr' H' := Weak.mk h
theorem we {n0 x H' a b} (h : n0 <= List.length b /\ List.length b <= H'.length /\ wkF H' (List.length b) [x] [a] /\ wkH H' (List.length b) H' b := by simp (disch := omega) only [go_sem, seval]) : ∃ y H'', Weak n0 [x] H' [y] H'' /\ y = a /\ H'' = b := ⟨_, _, Weak.mk h, rfl, rfl⟩
attribute [go_sem] List.length_cons List.length_nil List.cons_append List.nil_append List.append_nil List.map_cons List.map_nil List.drop_zero List.drop_succ_cons List.drop_nil List.take_succ_cons List.take_zero List.take_nil List.all_cons List.all_nil
 Nat.zero_add Nat.add_zero and_self true_and and_true Option.map_some Option.bind_some List.getElem?_cons_zero List.getElem?_cons_succ Bool.and_true Bool.true_and Bool.and_self List.length_map if_true if_false decide_true decide_false IntWalk.i64_in IntWalk.i32_in IntWalk.u8_in IntWalk.u64_in IntWalk.u32_in
 beq_self_eq_true List.replicate_succ List.replicate_zero Bool.or_true Bool.true_or Bool.or_false Bool.false_or Bool.not_true Bool.not_false
end Go.AM
namespace Go.AM
open Go.RowKit
theorem RP.weaker {X X' : Nat -> Prop} {w x v} (h : RP X w x v) (hx : ∀ b, X' b -> X b) : RP X' w x v := h.ext (w' := w) fun _ hb hs => ⟨fun h => hb (hx _ h), hs, rfl⟩
theorem Good.forget {F w H' ι' w'} (he : Env F [] w) (hf : ∀ b, F b -> b < w.heap.size) (g : Good F [] [] w H' ι' w') : Good F [] [] w [] [] w' :=
 .up he ⟨⟨rfl, fun b hb => by have := hf b hb; have := g.size; omega, fun i j b hi => by simp at hi, fun i b hi => by simp at hi, fun o cs ho => by simp at ho, fun o S xs ho => by simp at ho, fun o es ho => by simp at ho, fun o T E r bs ho => by simp at ho⟩,
  g.os, g.tape, g.output, fun b c t h => (g.shape b c t h).imp (fun h => absurd h.1 (by simp)) id, g.size, g.keep, fun _ _ h => h, fun o ob ho => by simp at ho⟩
theorem ACalls.pure {P g args} {y : PV} (h : ACalls P g args [] fun x _ => x = .p y) : ACalls P g args [] fun x H' => x = .p y /\ H' = [] := by
 refine ⟨h.1, fun F ι w vs hr hv => ?_⟩;have hι : ι = [] := List.eq_nil_of_length_eq_zero hr.len;subst hι;refine (h.2 F [] w vs hr hv).mono ?_;rintro e w' ⟨x, H', ι', v, rfl, rfl, gd, rv⟩
 cases rv with | p _ _ rp =>
 exact ⟨_, [], [], v, rfl, ⟨rfl, rfl⟩, gd.forget hr.env hr.fin, .p _ _ (rp.weaker fun b hb => .inl (by rcases hb with hb | hb; exact hb; simp at hb))⟩
theorem Jw {F : Nat -> Prop} {w w' : World} {H' : List Obj} {ι' : List (Option Nat)} {v : Value} {o S n : Nat} {xs : List PV} (hF : ∀ b, F b -> b < w.heap.size) (hn : xs.length = n) (ho : oat H' o = .elems S xs)
  (gd : Good F [] [] w H' ι' w') (rv : RV F H' ι' w' (.sl o 0 n n) v) : ∃ ι2, Good F [] [] w [.elems S xs] ι2 w' /\ RV F [.elems S xs] ι2 w' (.sl 0 0 n n) v := by
 have hH := ZP ho (by simp);have hlt := (List.getElem?_eq_some_iff.1 hH).1
 have hlt' : o < ι'.length := by rw [gd.rel.len]; exact hlt
 have hι' : ι'[o]? = some (ι'[o]) := by simp [hlt']
 have hget : ∀ {i : Nat} {q : Option Nat}, [ι'[o]][i]? = some q -> i = 0 /\ ι'[o]? = some q := fun {i q} h => by
  cases i with
  | zero => simp at h; subst h; exact ⟨rfl, hι'⟩
  | succ i => simp at h
 have hown : ∀ b, Own F [ι'[o]] b -> Own F ι' b := fun b hb => by
  rcases hb with hb | hb
  ·exact .inl hb
  ·simp at hb; right; rw [hb]; simp
 refine ⟨[ι'[o]], ⟨⟨⟨rfl, fun b hb => ?_, fun i j b hi hj => ?_, fun i b hi => ?_, fun o' cs ho' => ?_, fun o' S' xs' ho' => ?_, fun o' es ho' => by cases o' <;> simp at ho', fun o' T E r bs ho' => by cases o' <;> simp at ho'⟩, gd.rel.env.le hown⟩, gd.os, gd.tape, gd.output, fun b c t h => (gd.shape b c t h).imp (fun h => absurd h.1 (by simp)) id, gd.size, gd.keep, fun b hb _ h => ?_, fun o ob ho => by simp at ho⟩, ?_⟩
 ·have := hF b hb; have := gd.size; omega
 ·rw [(hget hi).1, (hget hj).1]
 ·exact gd.rel.avo o b (hget hi).2
 ·cases o' with
  | zero => simp at ho'
  | succ i => simp at ho'
 ·cases o' with
  | zero =>
   simp at ho'; obtain ⟨rfl, rfl⟩ := ho';rcases gd.rel.elm o _ _ hH with ⟨e1, e2⟩ | ⟨b, c, t, cap, e1, e2, e3, e4, e5, e6, e7⟩
   ·exact .inl ⟨by rw [hι'] at e1; simpa using e1, e2⟩
   ·exact .inr ⟨b, c, t, cap, by rw [hι'] at e1; simpa using e1, e2, e3, e4, e5, e6, fun i x j y hi hj => (e7 i x j y hi hj).weaker hown⟩
  | succ i => simp at ho'
 ·simp at h;exact gd.own b hb (by simp) (by rw [h]; simp)
 ·cases rv with
  | slNil _ S2 a h1 h2 =>
   rw [hH] at h2; simp at h2; obtain ⟨rfl, rfl⟩ := h2;exact .slNil 0 S a (by rw [hι'] at h1; simpa using h1) rfl
  | sl _ _ _ _ b S2 cap t xs2 c h1 h2 ht hw hcap hl hlen hm =>
   rw [hH] at h2; simp at h2; obtain ⟨rfl, rfl⟩ := h2;exact .sl 0 0 n n b S cap t xs c (by rw [hι'] at h1; simpa using h1) rfl hn hw hcap hl hlen hm
  | slD _ _ _ _ _ h1 => rw [hH] at h1; cases h1
  | slS _ _ _ _ _ S2 xs2 h1 hne => rw [hH] at h1; simp at h1; obtain ⟨_, rfl⟩ := h1; omega
  | slC _ _ _ _ _ _ hd => rw [hH] at hd; cases hd
theorem ACalls.fresh {P g args} {S n : Nat} {xs : List PV} (hn : xs.length = n) (h : ACalls P g args [] fun x H' => ∃ o, x = .sl o 0 n n /\ oat H' o = .elems S xs) : ACalls P g args [] fun x H' => x = .sl 0 0 n n /\ H' = [.elems S xs] := by
 refine ⟨h.1, fun F ι w vs hr hv => ?_⟩;have hι : ι = [] := List.eq_nil_of_length_eq_zero hr.len;subst hι;refine (h.2 F [] w vs hr hv).mono ?_;rintro e w' ⟨x, H', ι', v, rfl, ⟨o, rfl, ho⟩, gd, rv⟩;obtain ⟨ι2, g2, r2⟩ := Jw hr.fin hn ho gd rv;exact ⟨_, _, ι2, v, rfl, ⟨rfl, rfl⟩, g2, r2⟩
theorem ACalls.freshE {P g args} {α : Type} {S : Nat} {f : α -> PV} {R : List α -> Prop} (h : ACalls P g args [] fun x H' => ∃ l : List α, R l /\ ∃ o, x = .sl o 0 l.length l.length /\ oat H' o = .elems S (l.map f)) :
  ACalls P g args [] fun x H' => ∃ l : List α, R l /\ x = .sl 0 0 l.length l.length /\ H' = [.elems S (l.map f)] := by
 refine ⟨h.1, fun F ι w vs hr hv => ?_⟩;have hι : ι = [] := List.eq_nil_of_length_eq_zero hr.len;subst hι;refine (h.2 F [] w vs hr hv).mono ?_;rintro e w' ⟨x, H', ι', v, rfl, ⟨l, hl, o, rfl, ho⟩, gd, rv⟩;obtain ⟨ι2, g2, r2⟩ := Jw hr.fin (by simp) ho gd rv;exact ⟨_, _, ι2, v, rfl, ⟨l, hl, rfl, rfl⟩, g2, r2⟩
theorem ACalls.frozen {P g args} {S n : Nat} {xs : List PV} (hn : xs.length = n) (h : ACalls P g args [] fun x H' => x = .sl 0 0 n n /\ H' = [.elems S xs]) : ACalls P g args [] fun x H' => x = .p (.list false xs) /\ H' = [] := by
 refine ⟨h.1, fun F ι w vs hr hv => ?_⟩;have hι : ι = [] := List.eq_nil_of_length_eq_zero hr.len;subst hι;refine (h.2 F [] w vs hr hv).mono ?_;rintro e w' ⟨x, H', ι', v, rfl, ⟨rfl, rfl⟩, gd, rv⟩;have hk : Keeps (Own F ι') w' (Own F []) w' := fun b hb hs => ⟨fun h => hb (.inl (by rcases h with h | h; exact h; simp at h)), hs, rfl⟩
 have := Jc (S := S) (xs := xs) (off := 0) (len := n) (tot := n) (Own F []) (fun b hb h => by
  rcases h with h | h
  ·exact (gd.rel.avo 0 b hb).1 h
  ·simp at h) hk gd.rel rfl hn (by omega) rv
 rw [Nat.zero_add, List.drop_zero, List.take_of_length_le (by omega)] at this;exact ⟨_, [], [], v, rfl, ⟨rfl, rfl⟩, gd.forget hr.env hr.fin, .p _ _ this⟩
theorem ACalls.frozenE {P g args} {α : Type} {S : Nat} {f : α -> PV} {R : List α -> Prop} (h : ACalls P g args [] fun x H' => ∃ l : List α, R l /\ x = .sl 0 0 l.length l.length /\ H' = [.elems S (l.map f)]) :
  ACalls P g args [] fun x H' => ∃ l : List α, R l /\ x = .p (.list false (l.map f)) /\ H' = [] := by
 refine ⟨h.1, fun F ι w vs hr hv => ?_⟩;have hι : ι = [] := List.eq_nil_of_length_eq_zero hr.len;subst hι;refine (h.2 F [] w vs hr hv).mono ?_;rintro e w' ⟨x, H', ι', v, rfl, ⟨l, hl, rfl, rfl⟩, gd, rv⟩;have hk : Keeps (Own F ι') w' (Own F []) w' := fun b hb hs => ⟨fun h => hb (.inl (by rcases h with h | h; exact h; simp at h)), hs, rfl⟩
 have := Jc (S := S) (xs := l.map f) (off := 0) (len := l.length) (tot := l.length) (Own F []) (fun b hb h => by
  rcases h with h | h
  ·exact (gd.rel.avo 0 b hb).1 h
  ·simp at h) hk gd.rel rfl (by simp) (by omega) rv
 rw [Nat.zero_add, List.drop_zero, List.take_of_length_le (by simp)] at this;exact ⟨_, [], [], v, rfl, ⟨l, hl, rfl, rfl⟩, gd.forget hr.env hr.fin, .p _ _ this⟩
theorem ACalls.useV {P g args} {α : Type} {f : α -> PV} {R : α -> Prop} {H : List Obj} {K : V -> List Obj -> Prop} (h : ACalls P g args [] fun x H' => ∃ a : α, R a /\ x = .p (f a) /\ H' = []) (k : ∀ a, R a -> K (.p (f a)) H) (ha : refBs 0 args = true := by rfl) : ACalls P g args H K := by
 refine (h.behind ha H).mono ?_;rintro x H' ⟨y', H1, ⟨a, ra, rfl, rfl⟩, rfl, rfl⟩;simpa [shV] using k a ra
theorem ACalls.useE {P g args} {α : Type} {S : Nat} {f : α -> PV} {R : List α -> Prop} {H : List Obj} {K : V -> List Obj -> Prop} (h : ACalls P g args [] fun x H' => ∃ l : List α, R l /\ x = .sl 0 0 l.length l.length /\ H' = [.elems S (l.map f)])
  (k : ∀ l, R l -> K (.sl H.length 0 l.length l.length) (H ++ [.elems S (l.map f)])) (ha : refBs 0 args = true := by rfl) : ACalls P g args H K := by
 refine (h.behind ha H).mono ?_;rintro x H' ⟨y', H1, ⟨l, rl, rfl, rfl⟩, rfl, rfl⟩;simpa [shV, shO] using k l rl
theorem ACalls.use {P g args} {y : PV} {H : List Obj} {K : V -> List Obj -> Prop} (h : ACalls P g args [] fun x H' => x = .p y /\ H' = []) (k : K (.p y) H) (ha : refBs 0 args = true := by rfl) : ACalls P g args H K := by
 refine (h.behind ha H).mono ?_;rintro x H' ⟨y', H1, ⟨rfl, rfl⟩, rfl, rfl⟩;simpa [shV] using k
theorem ACalls.useF {P g args} {S n : Nat} {xs : List PV} {H : List Obj} {K : V -> List Obj -> Prop} (h : ACalls P g args [] fun x H' => x = .sl 0 0 n n /\ H' = [.elems S xs]) (k : K (.sl H.length 0 n n) (H ++ [.elems S xs])) (ha : refBs 0 args = true := by rfl) : ACalls P g args H K := by
 refine (h.behind ha H).mono ?_;rintro x H' ⟨y', H1, ⟨rfl, rfl⟩, rfl, rfl⟩;simpa [shV, shO] using k
theorem Za {P : Program} {g : FuncId} {fn : Func} {c : Code} {args : List V} {y : PV} (hf : P.funcs[g]? = some fn) (hb : fn.body = some c) (hg : Zg P g)
  (h : awp [] P c (args ++ List.replicate (fn.ntmps - args.length) .junk) [] (Zc7 P fn.results.toList fun x _ => x = .p y)) : ACalls P g args [] fun x H' => x = .p y /\ H' = [] :=
 (Xc hf hb hg (Zd [] _ _ _ _ h)).pure
theorem X5 {P : Program} {g : FuncId} {fn : Func} {c : Code} {args : List V} {S n : Nat} {xs : List PV} (hn : xs.length = n) (hf : P.funcs[g]? = some fn) (hb : fn.body = some c) (hg : Zg P g)
  (h : awp [] P c (args ++ List.replicate (fn.ntmps - args.length) .junk) [] (Zc7 P fn.results.toList fun x H' => ∃ o, x = .sl o 0 n n /\ oat H' o = .elems S xs)) : ACalls P g args [] fun x H' => x = .sl 0 0 n n /\ H' = [.elems S xs] :=
 (Xc hf hb hg (Zd [] _ _ _ _ h)).fresh hn
theorem Kd (cuts : List Nat) {P : Program} {g : FuncId} {fn : Func} {c : Code} {args : List V} {S n : Nat} {xs : List PV} (hn : xs.length = n) (hf : P.funcs[g]? = some fn) (hb : fn.body = some c) (hg : Zg P g)
  (h : awp cuts P c (args ++ List.replicate (fn.ntmps - args.length) .junk) [] (Zc7 P fn.results.toList fun x H' => ∃ o, x = .sl o 0 n n /\ oat H' o = .elems S xs)) : ACalls P g args [] fun x H' => x = .sl 0 0 n n /\ H' = [.elems S xs] :=
 (Xc hf hb hg (Zd cuts _ _ _ _ h)).fresh hn
theorem Zx (cuts : List Nat) {P : Program} {g : FuncId} {fn : Func} {c : Code} {args : List V} {α : Type} {S : Nat} {f : α -> PV} {R : List α -> Prop} (hf : P.funcs[g]? = some fn) (hb : fn.body = some c) (hg : Zg P g)
  (h : awp cuts P c (args ++ List.replicate (fn.ntmps - args.length) .junk) [] (Zc7 P fn.results.toList fun x H' => ∃ l : List α, R l /\ ∃ o, x = .sl o 0 l.length l.length /\ oat H' o = .elems S (l.map f))) : ACalls P g args [] fun x H' => ∃ l : List α, R l /\ x = .sl 0 0 l.length l.length /\ H' = [.elems S (l.map f)] :=
 (Xc hf hb hg (Zd cuts _ _ _ _ h)).freshE
theorem Weak.ofNil {n0 fr H fr' H'} (t S : Nat) (h : gt fr t = .p (.list true [])) (hn : n0 <= H.length) (k : Weak n0 (pt fr t (.sl H.length 0 0 0)) (H ++ [.elems S []]) fr' H') : Weak n0 fr H fr' H' :=
 (Weak.nil t S h hn).trans k
end Go.AM
namespace Go.AM
open Go.RowKit
section
variable {P : Program} {H : List Obj} {t : TypeId} {fr : List V}
def Zfs (e : Option (Option Nat × Nat)) (c : Bool) (xs : List PV) (lo hi : V) : Option V := match e, lo, hi with
 | some (none, S), .p (.int _ a), .p (.int _ b) => if Zem S xs = true /\ 0 <= a /\ a <= b /\ b <= xs.length then some (.p (.list (c && decide (b = xs.length)) ((xs.take b.toNat).drop a.toNat))) else none
 | _, _, _ => none
def V.isInt : V -> Option Int
 | .p (.int _ n) => some n
 | _ => none
theorem V.isInt_some {x : V} {n} (h : x.isInt = some n) : ∃ k, x = .p (.int k n) := by
 unfold V.isInt at h; split at h
 ·rename_i k m; simp at h; exact ⟨k, by rw [h]⟩
 ·cases h
theorem VG {d : Int} {x : Operand} : abd d fr (some x) = (ev fr x).isInt := rfl
theorem QH {c xs k k' a b} : (V9 P t c xs a b none).map .p = Zfs (YG P t) c xs (.p (.int k a)) (.p (.int k' b)) := by
 simp only [V9, Zfs]
 cases YG P t with
 | none => rfl
 | some q =>
  obtain ⟨e, S⟩ := q
  cases e with
  | some n => rfl
  | none => simp only []; split <;> rfl
theorem ZfJ {e c xs lo hi} (h : lo.isInt = none) : Zfs e c xs lo hi = none := by
 unfold Zfs; split
 ·simp [V.isInt] at h
 ·rfl
theorem ZeO {e c xs lo hi} (h : hi.isInt = none) : Zfs e c xs lo hi = none := by
 unfold Zfs; split
 ·simp [V.isInt] at h
 ·rfl
@[go_sem] theorem ZoM {c xs hi} : XP P H t fr (.p (.list c xs)) none (some hi) none = Zfs (YG P t) c xs (.p (.int .i64 0)) (ev fr hi) := by
 simp only [XP, VG]
 cases h : (ev fr hi).isInt with
 | none => simp [abd, ZeO h]
 | some n => obtain ⟨k, e⟩ := V.isInt_some h; rw [e, <- QH]; rfl
@[go_sem] theorem ZsD {c xs lo} : XP P H t fr (.p (.list c xs)) (some lo) none none = Zfs (YG P t) c xs (ev fr lo) (.p (.int .i64 (List.length xs))) := by
 simp only [XP, VG]
 cases h : (ev fr lo).isInt with
 | none => simp [ZfJ h]
 | some n => obtain ⟨k, e⟩ := V.isInt_some h; rw [e, <- QH]; rfl
@[go_sem] theorem ZlW {c xs lo hi} : XP P H t fr (.p (.list c xs)) (some lo) (some hi) none = Zfs (YG P t) c xs (ev fr lo) (ev fr hi) := by
 simp only [XP, VG]
 cases h : (ev fr lo).isInt with
 | none => simp [ZfJ h]
 | some n =>
  cases h2 : (ev fr hi).isInt with
  | none => simp [ZeO h2]
  | some m => obtain ⟨k, e⟩ := V.isInt_some h; obtain ⟨k2, e2⟩ := V.isInt_some h2; rw [e, e2, <- QH]
@[go_sem] theorem Zvu {α : Type} {f : α -> PV} {l : List α} {S c k k' a b} (h0 : 0 <= a) (h1 : a <= b) (h2 : b <= (l.length : Int)) :
  Zfs (some (none, S)) c (l.map f) (.p (.int k a)) (.p (.int k' b)) = if Zem S (l.map f) = true then some (.p (.list (c && decide (b = l.length)) (((l.take b.toNat).drop a.toNat).map f))) else none := by
 simp only [Zfs, List.length_map]
 by_cases h : Zem S (l.map f) = true
 ·rw [if_pos ⟨h, h0, h1, h2⟩, if_pos h]; simp
 ·rw [if_neg (fun q => h q.1), if_neg h]
end
def ZeP (P : Program) (d : Option TypeDesc) (x i : V) : Option V :=
 match d, x, i with
 | some .string, .p (.str s), .p (.int _ n) => if 0 <= n then (s[n.toNat]?).map fun b => .p (.int .u8 b.toNat) else none
 | some (.array k e), .p (.agg cs), .p (.int _ n) => if 0 <= n /\ n < k then (match tsz P e with | some m => (apart P e cs (n.toNat * m)).map .p | none => none) else none
 | _, _, _ => none
@[go_sem] theorem Zw1 {P : Program} {t : TypeId} {x i : V} : ZgA P t x i = ZeP P (P.underlying t) x i := Eq.trans rfl rfl
@[go_sem] theorem ZrM {P : Program} {s : List UInt8} {k n} (h0 : 0 <= n) (h1 : n < (s.length : Int)) : ZeP P (some .string) (.p (.str s)) (.p (.int k n)) = some (.p (.int .u8 ((nth s n.toNat).toNat : Nat))) := by
 have h : n.toNat < s.length := by omega
 simp [ZeP, h0, h, Ze h]
def ZiW (d : Option TypeDesc) (s : List UInt8) (lo hi : V) : Option V := match d, lo, hi with
 | some .string, .p (.int _ a), .p (.int _ b) => if 0 <= a /\ a <= b /\ b <= s.length then some (.p (.str ((s.take b.toNat).drop a.toNat))) else none
 | _, _, _ => none
theorem Zl0 {d s lo hi} (h : lo.isInt = none) : ZiW d s lo hi = none := by
 unfold ZiW; split
 ·simp [V.isInt] at h
 ·rfl
theorem Zl8 {d s lo hi} (h : hi.isInt = none) : ZiW d s lo hi = none := by
 unfold ZiW; split
 ·simp [V.isInt] at h
 ·rfl
section
variable {P : Program} {H : List Obj} {t : TypeId} {fr : List V}
theorem Zgn {s : List UInt8} {k k' a b} : (match P.underlying t with | some .string => (if 0 <= a /\ a <= b /\ b <= (s.length : Int) then some (V.p (.str ((s.take b.toNat).drop a.toNat))) else none) | _ => none) = ZiW (P.underlying t) s (.p (.int k a)) (.p (.int k' b)) := by
 simp only [ZiW]
 cases P.underlying t with
 | none => rfl
 | some d => cases d <;> rfl
@[go_sem] theorem Zj5 {s lo hi} : XP P H t fr (.p (.str s)) (some lo) (some hi) none = ZiW (P.underlying t) s (ev fr lo) (ev fr hi) := by
 simp only [XP, VG]
 cases h : (ev fr lo).isInt with
 | none => rw [Zl0 h]; simp
 | some n =>
  cases h2 : (ev fr hi).isInt with
  | none => rw [Zl8 h2]; simp
  | some m =>
   obtain ⟨k, e⟩ := V.isInt_some h;obtain ⟨k2, e2⟩ := V.isInt_some h2;rw [e, e2, <- Zgn]
   cases P.underlying t with
   | none => rfl
   | some d => cases d <;> rfl
end
@[go_sem low] theorem Ziy {H : List Obj} {S b xs ys o n} : Q7 H (some (S, b)) (.elems S xs) o n (some ys) = if xs.length = n /\ okE S ys = true /\ (n + ys.length) * b <= 140737488355328 /\ n + ys.length <= 140737488355328 then some (.sl o 0 (n + ys.length) (n + ys.length), ost H o (.elems S (xs ++ ys))) else none := by simp [Q7]
@[go_sem] theorem Zyp {H : List Obj} {n f a b f' a' b'} : wkV H n (.fn f a b) (.fn f' a' b') = ((f' = f /\ a' = a /\ b' = b) /\ refB n (.fn f a b) = true) := by simp [wkV, frz]
@[go_sem] theorem ZxY {n f a b} : refB n (.fn f a b) = (refBs n a && refBs n b) := by simp [refB]
@[go_sem] theorem ZAL {n x} : refB n (.p x) = true := by simp [refB]
@[go_sem] theorem Zu8 {n o off} : refB n (.ptr o off) = decide (o < n) := by simp [refB]
@[go_sem] theorem Zoq {n} : refBs n [] = true := by simp [refBs]
@[go_sem] theorem Zne {n x l} : refBs n (x :: l) = (refB n x && refBs n l) := by simp [refBs]
theorem ACalls.useH {P g args H} {v : V} {H2 : List Obj} {K : V -> List Obj -> Prop} (h : ACalls P g args H fun x H' => x = v /\ H' = H2) (k : K v H2) : ACalls P g args H K :=
 h.mono (by rintro _ _ ⟨rfl, rfl⟩; exact k)
theorem UH {α : Type} {f : α -> PV} {S : Nat} (h : ∀ x, (f x).cells.length = S) (l : List α) : Zem S (l.map f) = true := by
 cases l with
 | nil => rfl
 | cons x l => simp [Zem, h]
@[go_sem] theorem Zxl {k k'} {a b : Int} (h : b <= a) : Zat false [.p (.int k a), .p (.int k' b)] = some (.int k a) := by simp [Zat]; omega
@[go_sem] theorem ZbT {k k'} {a b : Int} (h : a <= b) : Zat true [.p (.int k a), .p (.int k' b)] = some (.int k a) := by simp [Zat]; omega
@[go_sem] theorem Zbl {k k'} {a b : Int} (h : b < a) : Zat true [.p (.int k a), .p (.int k' b)] = some (.int k b) := by simp [Zat, h]
def WX (F : Option (Nat × Nat × PV)) (H : List Obj) (x y : V) : Option (V × List Obj) := match F, x, y with
 | some (S, by', z), .p (.int .i64 n), .p (.int .i64 m) => if n = m /\ 0 <= n /\ (by' : Int) * n <= 281474976710656 /\ n <= 281474976710656 then some (.sl H.length 0 n.toNat n.toNat, H ++ [.elems S (List.replicate n.toNat z)]) else none
 | _, _, _ => none
theorem Jx {P : Program} {t : TypeId} {fr : List V} {H : List Obj} {x y : Operand} {F} (h : Zi2 P t = some F) : WT P (.makeSlice t x y) fr H = WX (some F) H (ev fr x) (ev fr y) := by
 unfold Zi2 at h
 split at h
 ·rename_i e hu
  split at h
  ·rename_i S' z' b h1 h2 h3
   split at h
   ·rename_i hc;simp at h; subst h
    have h3' : (P.info? e).map (fun x => (x.bytes : Int)) = some (b : Int) := by
     cases hi : P.info? e with
     | none => simp [hi] at h3
     | some i => simp [hi] at h3 ⊢; rw [h3]
    simp only [WT, hu, h2, hc.1, if_true, Zij, h1, h3'];generalize ev fr x = X;generalize ev fr y = Y
    by_cases hX : ∃ n, X = .p (.int .i64 n)
    ·obtain ⟨n, rfl⟩ := hX
     by_cases hY : ∃ m, Y = .p (.int .i64 m)
     ·obtain ⟨m, rfl⟩ := hY;simp [WX, hc.2]
     ·have e1 : WX (some (S', b, z')) H (.p (.int .i64 n)) Y = none := by
       unfold WX; split
       ·rename_i hm; exact absurd ⟨_, rfl⟩ hY
       ·rfl
      rw [e1]; split
      ·exact absurd ⟨_, rfl⟩ hY
      ·rfl
    ·have e1 : WX (some (S', b, z')) H X Y = none := by
      unfold WX; split
      ·exact absurd ⟨_, rfl⟩ hX
      ·rfl
     rw [e1]; split
     ·exact absurd ⟨_, rfl⟩ hX
     ·rfl
   ·cases h
  ·cases h
 ·cases h
@[go_sem] theorem Zpf {H : List Obj} {S b : Nat} {z n} (h0 : 0 <= n) (h1 : (b : Int) * n <= 281474976710656) (h2 : n <= 281474976710656) : WX (some (S, b, z)) H (.p (.int .i64 n)) (.p (.int .i64 n)) = some (.sl H.length 0 n.toNat n.toNat, H ++ [.elems S (List.replicate n.toNat z)]) := by
 simp only [WX]; rw [if_pos ⟨trivial, h0, h1, h2⟩]
theorem Zqb (x y : Nat) (hx : x < 9223372036854775808) (hy : y < 9223372036854775808) : IntKind.i64.wrap ((BitVec.ofInt 64 (x : Int) ||| BitVec.ofInt 64 (y : Int)).toNat : Int) = ((x ||| y : Nat) : Int) := by
 have e : (BitVec.ofInt 64 (x : Int) ||| BitVec.ofInt 64 (y : Int)).toNat = x ||| y := by
  simp [BitVec.toNat_or, Nat.mod_eq_of_lt (show x < 18446744073709551616 by omega), Nat.mod_eq_of_lt (show y < 18446744073709551616 by omega)]
 have h : x ||| y < 2 ^ 63 := Nat.or_lt_two_pow (by omega) (by omega);rw [e];exact IntWalk.i64_in _ (by omega)
theorem Zk6 (x y : Nat) (hx : x < 9223372036854775808) (hy : y < 9223372036854775808) : IntKind.i64.wrap ((BitVec.ofInt 64 (x : Int) &&& BitVec.ofInt 64 (y : Int)).toNat : Int) = ((x &&& y : Nat) : Int) := by
 have e : (BitVec.ofInt 64 (x : Int) &&& BitVec.ofInt 64 (y : Int)).toNat = x &&& y := by
  simp [BitVec.toNat_and, Nat.mod_eq_of_lt (show x < 18446744073709551616 by omega), Nat.mod_eq_of_lt (show y < 18446744073709551616 by omega)]
 have h : x &&& y <= x := Nat.and_le_left;rw [e];exact IntWalk.i64_in _ (by omega)
@[go_sem high] theorem Ziv {P : Program} {t : TypeId} {x y : Nat} (hx : x < 9223372036854775808) (hy : y < 9223372036854775808) : Ye P .or t (.p (.int .i64 (x : Int))) (.p (.int .i64 (y : Int))) = some (.int .i64 ((x ||| y : Nat) : Int)) := by
 rw [Zfb]; exact congrArg (fun q => some (PV.int .i64 q)) (Zqb x y hx hy)
@[go_sem high] theorem ZnR {P : Program} {t : TypeId} {x y : Nat} (hx : x < 9223372036854775808) (hy : y < 9223372036854775808) : Ye P .and t (.p (.int .i64 (x : Int))) (.p (.int .i64 (y : Int))) = some (.int .i64 ((x &&& y : Nat) : Int)) := by
 rw [Zi0]; exact congrArg (fun q => some (PV.int .i64 q)) (Zk6 x y hx hy)
def pw (k : Nat) : Nat := 2 ^ k
theorem Vf (k : Nat) : pw (k + 1) = 2 * pw k := by simp [pw, Nat.pow_succ]; omega
theorem ZS {k m : Nat} (h : k <= m) : pw k <= pw m := Nat.pow_le_pow_right (by omega) h
theorem Vq (k : Nat) : 0 < pw k := Nat.pow_pos (by omega)
theorem Ud : pw 62 = 4611686018427387904 := by decide
@[go_sem high] theorem ZoS {P : Program} {t : TypeId} {k'} {a : Int} (h0 : 0 <= a) (h1 : a <= 62) : Ye P .shl t (.p (.int .i64 1)) (.p (.int k' a)) = some (.int .i64 ((pw a.toNat : Nat) : Int)) := by
 rw [ZhO h0]
 have h2 : min a.toNat IntKind.i64.bits = a.toNat := by show min a.toNat 64 = a.toNat; omega
 rw [h2, Int.one_mul]
 have h3 : ((2 : Int) ^ a.toNat) = ((pw a.toNat : Nat) : Int) := by simp [pw]
 rw [h3];have := ZS (show a.toNat <= 62 by omega);have := Ud;rw [IntWalk.i64_in _ (by omega)]
attribute [go_sem] List.length_append List.map_append not_false_eq_true not_true_eq_false false_and and_false true_or or_true false_or or_false Classical.not_not Bool.false_eq_true Bool.and_false Bool.false_and
end Go.AM
namespace Go.AM
open Go.RowKit
theorem Za2 {P ds frJ H} {K K' : List V -> Prop} : ∀ (l : List Oper) (i : Nat) (vals : List V), (∀ ys, ys.length = vals.length + l.length -> K ys -> K' ys) -> hd P ds frJ H K i l vals -> hd P ds frJ H K' i l vals
 | [], i, vals, hk, h => hk vals rfl h
 | o :: l, i, vals, hk, h => by
  have ih : ∀ y, hd P ds frJ H K (i + 1) l (vals ++ [y]) -> hd P ds frJ H K' (i + 1) l (vals ++ [y]) := fun y => Za2 l (i + 1) (vals ++ [y]) fun ys hy => hk ys (by simp at hy ⊢; omega);simp only [hd] at h ⊢
  split at h
  ·obtain ⟨y, h1, h2⟩ := h;exact ⟨y, h1, ih y h2⟩
  ·unfold Z1 at h ⊢
   split at h
   ·exact ⟨fun e => by obtain ⟨y, h1, h2⟩ := h.1 e; exact ⟨y, h1, ih y h2⟩, fun e => ih _ (h.2 e)⟩
   ·exact ih _ h
   ·exact h.elim
def XI : List (Option Nat) -> List V -> List V -> List V
 | some d :: ds, v :: vals, fr => XI ds vals (pt fr d v)
 | none :: ds, _ :: vals, fr => XI ds vals fr
 | _, _, fr => fr
theorem V3 (d : Option Nat) (v : V) (ds : List (Option Nat)) (vals : List V) : ∀ (l : List Nat) (fr : List V), ZC (d :: ds) (v :: vals) (l.map (· + 1)) fr = ZC ds vals l fr
 | [], fr => rfl
 | j :: l, fr => by
  simp only [List.map_cons, ZC, List.getElem?_cons_succ]
  split <;> exact V3 d v ds vals l _
theorem Q9 : ∀ (ds : List (Option Nat)) (vals : List V) (fr : List V), vals.length = ds.length -> ZC ds vals (List.range ds.length) fr = XI ds vals fr
 | [], [], fr, _ => rfl
 | d :: ds, v :: vals, fr, h => by
  have ih := fun fr => Q9 ds vals fr (by simpa using h);rw [List.length_cons, List.range_succ_eq_map]
  cases d with
  | none => simp only [ZC, List.getElem?_cons_zero, XI]; rw [V3]; exact ih fr
  | some d => simp only [ZC, List.getElem?_cons_zero, XI]; rw [V3]; exact ih _
 | [], _ :: _, _, h => by simp at h
 | _ :: _, [], _, h => by simp at h
theorem Ug {P : Program} {id : Nat} {l : List Oper} {fr : List V} {H : List Obj} {Q : Exit -> List V -> List Obj -> Prop} {t} (hm : P.follows .mixedOrders = true) (hB : Yd (List.toArray l) l.length = true)
  (h : hd P (l.map (·.dst)) (Zu (l.map (·.dst)) fr) H (Zv (fun vals => Q .normal (XI (l.map (·.dst)) vals (Zu (l.map (·.dst)) fr)) H) ⟨⟩) 0 l []) :
  AWP P (.region id (Zv (List.toArray l) t) true) fr H Q := by
 refine K4 (ops := List.toArray l) l.length hm hB ?_;have e0 : (List.toArray l).toList = l := rfl;rw [e0];have e1 : (l.map (fun x => Oper.dst x)).take l.length = l.map (·.dst) := List.take_of_length_le (by simp);have e2 : l.take l.length = l := List.take_length
 have e3 : l.drop l.length = [] := by simp
 rw [e1, e2, e3];refine Za2 _ _ _ (fun ys hy hk => ?_) h;have e4 := Q9 (l.map (·.dst)) ys (Zu (l.map (·.dst)) fr) (by simp at hy ⊢; omega);rw [List.length_map] at e4;simp only [Yk];rw [e4];exact hk
def exq (A : V -> Prop) (B : V -> Prop) : Prop := ∃ y, A y /\ B y
section
variable {P : Program} {ds : List (Option Nat)} {frJ : List V} {H : List Obj} {K : List V -> Prop} {i : Nat} {r : List Oper} {vals : List V} {d : Option Nat} {op : Op} {t : TypeId} {ps : String} {af : Array Edge}
@[go_sem ↓] theorem ZAI : hd P ds frJ H K i [] vals = K vals := Eq.trans rfl rfl
@[go_sem ↓] theorem ZxH : hd P ds frJ H K i (⟨d, op, t, ps, af, none⟩ :: r) vals = exq (fun y => Zs P ⟨d, op, t, ps, af, none⟩ (idF (ZC ds vals (Zn i ⟨d, op, t, ps, af, none⟩) frJ)) H (Zv (fun x H' => x = y /\ H' = H) ⟨⟩)) (Zv (fun y => hd P ds frJ H K (i + 1) r (vals ++ [y])) ⟨⟩) := Eq.trans rfl rfl
@[go_sem ↓, go_sem] theorem Zzm {v : V} {B : V -> Prop} {t} : exq (fun y => v = y) (Zv B t) = B v := by simp [exq, Zv]
@[go_sem] theorem ZrW {l : List Edge} {g} : Zn i ⟨d, op, t, ps, List.toArray l, g⟩ = (l.filter fun e => Region.binds .any e && decide (e.on < i)).map (·.on) := Eq.trans rfl rfl
@[go_sem] theorem ZnB {on} : Region.binds .any ⟨on, .data⟩ = true := Eq.trans rfl rfl
@[go_sem] theorem Zmq {on} : Region.binds .any ⟨on, .phase⟩ = true := Eq.trans rfl rfl
@[go_sem] theorem Zkn {on} : Region.binds .any ⟨on, .chain⟩ = true := Eq.trans rfl rfl
@[go_sem] theorem ZnH {on k} : Region.binds .any ⟨on, .textOnly k⟩ = false := Eq.trans rfl rfl
@[go_sem] theorem ZvH {on k} : Region.binds .any ⟨on, .gcOnly k⟩ = false := Eq.trans rfl rfl
def Zbe (ds : List (Option Nat)) (vals : List V) (l : List Nat) (fr : List V) (a : Option (Option Nat)) (v : Option V) : List V := match a, v with
 | some (some d), some v => ZC ds vals l (pt fr d v)
 | _, _ => ZC ds vals l fr
@[go_sem] theorem Zt8 {fr} : ZC ds vals [] fr = fr := Eq.trans rfl rfl
@[go_sem] theorem ZqB {j l fr} : ZC ds vals (j :: l) fr = Zbe ds vals l fr ds[j]? vals[j]? := by simp only [ZC, Zbe]; split <;> simp_all
@[go_sem] theorem Zm1 {l fr d v} : Zbe ds vals l fr (some (some d)) (some v) = ZC ds vals l (pt fr d v) := Eq.trans rfl rfl
@[go_sem] theorem ZpY {d ds v vals fr} : XI (some d :: ds) (v :: vals) fr = XI ds vals (pt fr d v) := Eq.trans rfl rfl
@[go_sem] theorem ZuF {fr} : XI [] [] fr = fr := Eq.trans rfl rfl
@[go_sem] theorem Zn4 {fr} : Zu [] fr = fr := Eq.trans rfl rfl
@[go_sem] theorem ZnI {d l fr} : Zu (some d :: l) fr = Zu l (pt fr d .junk) := Eq.trans rfl rfl
theorem Zt {f azs} {z : PV} {B : V -> Prop} {t} (h : ACalls P f azs [] fun x H' => x = .p z /\ H' = []) (k : B (.p z)) (ha : refBs 0 azs = true := by rfl) :
  exq (fun y => ACalls P f azs H (Zv (Zv (fun x H' => x = y /\ H' = H) ⟨⟩) ⟨⟩)) (Zv B t) :=
 ⟨.p z, h.use ⟨rfl, rfl⟩ ha, k⟩
end
section
variable {P : Program} {fr : List V} {H : List Obj} {k : V -> List Obj -> Prop} {d : Option Nat} {t : TypeId} {ps : String} {af : Array Edge} {g : Option (Nat × Bool)}
@[go_sem ↓] theorem Znl {u n l} : Zs P ⟨d, .buildSlice u n (List.toArray l), t, ps, af, g⟩ fr H k = pst ((ZeY (UX P u) H n (l.map fun x => (x.1, ev fr x.2))).map .p) (Zv (fun v => k v H) ⟨⟩) := by
 simp only [Zs]
 cases (ZeY (UX P u) H n (l.map fun x => (x.1, ev fr x.2))) <;> simp [pst, Zv]
@[go_sem] theorem ZmX {S n l} : ZeY (some S) H n l = if n = l.length /\ n * S <= 16777216 /\ 0 < S then (QV H S 0 l).map (.list false) else none := Eq.trans rfl rfl
@[go_sem ↓] theorem ZlM {x} : Zs P ⟨d, .move x, t, ps, af, g⟩ fr H k = Zq P ⟨d, .move x, t, ps, af, g⟩ fr H k := rfl
@[go_sem ↓] theorem Zhs {x} : Zs P ⟨d, .assign x, t, ps, af, g⟩ fr H k = Zq P ⟨d, .assign x, t, ps, af, g⟩ fr H k := rfl
@[go_sem ↓] theorem Zlx {x y z} : Zs P ⟨d, .pick x y z, t, ps, af, g⟩ fr H k = Zq P ⟨d, .pick x y z, t, ps, af, g⟩ fr H k := rfl
@[go_sem ↓] theorem ZjL {x} : Zs P ⟨d, .alloc x, t, ps, af, g⟩ fr H k = Zq P ⟨d, .alloc x, t, ps, af, g⟩ fr H k := rfl
@[go_sem ↓] theorem Zm6 {x y} : Zs P ⟨d, .box x y, t, ps, af, g⟩ fr H k = Zq P ⟨d, .box x y, t, ps, af, g⟩ fr H k := rfl
@[go_sem ↓] theorem Zj1 {x y} : Zs P ⟨d, .build x y, t, ps, af, g⟩ fr H k = Zq P ⟨d, .build x y, t, ps, af, g⟩ fr H k := rfl
@[go_sem ↓] theorem ZkO {x y} : Zs P ⟨d, .load x y, t, ps, af, g⟩ fr H k = Zq P ⟨d, .load x y, t, ps, af, g⟩ fr H k := rfl
@[go_sem ↓] theorem Zki {x y z} : Zs P ⟨d, .store x y z, t, ps, af, g⟩ fr H k = Zq P ⟨d, .store x y z, t, ps, af, g⟩ fr H k := rfl
@[go_sem ↓] theorem Zfa {x} : Zs P ⟨d, .nilCheck x, t, ps, af, g⟩ fr H k = Zq P ⟨d, .nilCheck x, t, ps, af, g⟩ fr H k := rfl
@[go_sem ↓] theorem Zj8 {x y z u v} : Zs P ⟨d, .binOp x y z u v, t, ps, af, g⟩ fr H k = Zq P ⟨d, .binOp x y z u v, t, ps, af, g⟩ fr H k := rfl
@[go_sem ↓] theorem Zmv {x y z} : Zs P ⟨d, .unOp x y z, t, ps, af, g⟩ fr H k = Zq P ⟨d, .unOp x y z, t, ps, af, g⟩ fr H k := rfl
@[go_sem ↓] theorem Zg0 {x y z} : Zs P ⟨d, .convert x y z, t, ps, af, g⟩ fr H k = Zq P ⟨d, .convert x y z, t, ps, af, g⟩ fr H k := rfl
@[go_sem ↓] theorem ZgE {x y z} : Zs P ⟨d, .makeFunc x y z, t, ps, af, g⟩ fr H k = Zq P ⟨d, .makeFunc x y z, t, ps, af, g⟩ fr H k := rfl
@[go_sem ↓] theorem Zeg {x y z} : Zs P ⟨d, .makeSlice x y z, t, ps, af, g⟩ fr H k = Zq P ⟨d, .makeSlice x y z, t, ps, af, g⟩ fr H k := rfl
@[go_sem ↓] theorem Zjj {x y z u v} : Zs P ⟨d, .slice x y z u v, t, ps, af, g⟩ fr H k = Zq P ⟨d, .slice x y z u v, t, ps, af, g⟩ fr H k := rfl
@[go_sem ↓] theorem Zel {x y z} : Zs P ⟨d, .fieldAddr x y z, t, ps, af, g⟩ fr H k = Zq P ⟨d, .fieldAddr x y z, t, ps, af, g⟩ fr H k := rfl
@[go_sem ↓] theorem ZjJ {x y z} : Zs P ⟨d, .field x y z, t, ps, af, g⟩ fr H k = Zq P ⟨d, .field x y z, t, ps, af, g⟩ fr H k := rfl
@[go_sem ↓] theorem Zef {x y z} : Zs P ⟨d, .indexAddr x y z, t, ps, af, g⟩ fr H k = Zq P ⟨d, .indexAddr x y z, t, ps, af, g⟩ fr H k := rfl
@[go_sem ↓] theorem ZjD {x y z} : Zs P ⟨d, .index x y z, t, ps, af, g⟩ fr H k = Zq P ⟨d, .index x y z, t, ps, af, g⟩ fr H k := rfl
@[go_sem ↓] theorem ZgX {x y} : Zs P ⟨d, .extract x y, t, ps, af, g⟩ fr H k = Zq P ⟨d, .extract x y, t, ps, af, g⟩ fr H k := rfl
@[go_sem ↓] theorem Zk4 {x y z} : Zs P ⟨d, .call ⟨.value x, y, z⟩, t, ps, af, g⟩ fr H k = Zq P ⟨d, .call ⟨.value x, y, z⟩, t, ps, af, g⟩ fr H k := rfl
@[go_sem ↓] theorem Zm9 {y z} : Zs P ⟨d, .call ⟨.builtin .len, y, z⟩, t, ps, af, g⟩ fr H k = Zq P ⟨d, .call ⟨.builtin .len, y, z⟩, t, ps, af, g⟩ fr H k := rfl
@[go_sem ↓] theorem Zns {y z} : Zs P ⟨d, .call ⟨.builtin .max, y, z⟩, t, ps, af, g⟩ fr H k = Zq P ⟨d, .call ⟨.builtin .max, y, z⟩, t, ps, af, g⟩ fr H k := rfl
@[go_sem ↓] theorem Znn {y z} : Zs P ⟨d, .call ⟨.builtin .min, y, z⟩, t, ps, af, g⟩ fr H k = Zq P ⟨d, .call ⟨.builtin .min, y, z⟩, t, ps, af, g⟩ fr H k := rfl
theorem Zax {o fr' H'} (h : fr = fr') (h2 : H = H') : Zs P o fr H k = Zs P o fr' H' k := by rw [h, h2]
end
attribute [congr] Zax
attribute [go_sem] List.filter_cons List.filter_nil
end Go.AM
namespace Go.AM
open Go.RowKit
def vw (H : List Obj) : V -> Option V
 | .p x => some (.p x)
 | .fn f [] [] => some (.fn f [] [])
 | .sl o off len tot => match oat H o with
  | .elems _ xs => if xs.length = tot /\ off + len <= tot then some (.p (.list false ((xs.take (off + len)).drop off))) else none
  | _ => none
 | _ => none
def vws (H : List Obj) : List V -> Option (List V)
 | [] => some []
 | x :: l => match vw H x, vws H l with | some y, some ys => some (y :: ys) | _, _ => none
abbrev ZlN : Nat -> Prop := fun _ => False
theorem ZiE {b : Nat} : ¬ Own ZlN [] b := by simp [Own]
theorem Zhl {w : World} (he : Env ZlN [] w) : Rel ZlN [] [] w := ⟨⟨rfl, fun b hb => hb.elim, fun i j b hi => by simp at hi, fun i b hi => by simp at hi, fun o cs ho => by simp at ho, fun o S xs ho => by simp at ho, fun o es ho => by simp at ho, fun o T E r bs ho => by simp at ho⟩, he⟩
def rd1 (H : List Obj) : V -> Option PV
 | .p x => some x
 | .sl o off len tot => match oat H o with
  | .elems _ xs => if xs.length = tot /\ off + len <= tot then some (.list false ((xs.take (off + len)).drop off)) else none
  | _ => none
 | _ => none
def rds (H : List Obj) : List V -> Option (List PV)
 | [] => some []
 | x :: l => match rd1 H x, rds H l with | some y, some ys => some (y :: ys) | _, _ => none
def rd (H : List Obj) : V -> Option PV
 | .agg cs => (rds H cs).map .agg
 | x => rd1 H x
@[go_sem] theorem ZwC {o off len tot r} : QS (.sl o off len tot :: r) = none := Eq.trans rfl rfl
attribute [go_sem] Option.map_none
end Go.AM
set_option linter.unusedVariables false
set_option linter.unusedSimpArgs false
namespace Go.Proofs.YtcdoglogglbemaaGreatDoor.K
open Go Go.AM
def Ed (be : List (Int × Int)) (a b : Nat) : Prop := ∃ p ∈ be, p.1 = (a : Int) /\ p.2 = (b : Int)
inductive Ch (be : List (Int × Int)) : Nat -> Nat -> Prop where
 | one {a b} (h : Ed be a b) : Ch be a b
 | more {a b c} (h : Ch be a b) (k : Ed be b c) : Ch be a c
def Val (n : Nat) (be : List (Int × Int)) : Prop := ∀ p ∈ be, 0 <= p.1 /\ p.1 < n /\ 0 <= p.2 /\ p.2 < n
theorem Ch.lt {n be} (hv : Val n be) {a b} (h : Ch be a b) : a < n /\ b < n := by
 induction h with
 | one h => obtain ⟨p, hp, h1, h2⟩ := h; have := hv p hp; omega
 | more _ h ih => obtain ⟨p, hp, h1, h2⟩ := h; have := hv p hp; omega
def cst (out : List Nat) (p : Int × Int) : List Nat := out.set p.2.toNat (nth out p.2.toNat ||| nth out p.1.toNat ||| pw p.1.toNat)
def pas (out : List Nat) (be : List (Int × Int)) : List Nat := be.foldl cst out
structure Snd (n : Nat) (be : List (Int × Int)) (out : List Nat) : Prop where
 len : out.length = n
 lt : ∀ b, b < n -> nth out b < pw n
 snd : ∀ a b, b < n -> (nth out b).testBit a = true -> Ch be a b
structure Clo (n : Nat) (be : List (Int × Int)) (out : List Nat) : Prop extends Snd n be out where
 cmp : ∀ a b, Ch be a b -> (nth out b).testBit a = true
theorem JZ (l : List Nat) (i j v : Nat) (h : j < l.length) : nth (l.set i v) j = if i = j then v else nth l j := by
 simp only [nth, List.getD_eq_getElem?_getD, List.getElem?_set]
 by_cases hij : i = j
 ·subst hij; simp [h]
 ·simp [hij]
theorem Snd.zero (n be) : Snd n be (List.replicate n 0) := by
 refine ⟨by simp, fun b hb => ?_, fun a b hb h => ?_⟩
 ·rw [Ze (by simpa using hb)]; simp [Vq]
 ·rw [Ze (by simpa using hb)] at h; simp at h
theorem Z5 (a b : Nat) : (pw a).testBit b = decide (a = b) := by simp [pw, Nat.testBit_two_pow]
theorem Snd.step {n be out} (hv : Val n be) (hs : Snd n be out) {p} (hp : p ∈ be) : Snd n be (cst out p) := by
 obtain ⟨h1, h2, h3, h4⟩ := hv p hp;refine ⟨by simp [cst, hs.len], fun b hb => ?_, fun a b hb h => ?_⟩
 ·rw [cst, JZ _ _ _ _ (by rw [hs.len]; exact hb)]
  split
  ·have e1 := hs.lt p.2.toNat (by omega);have e2 := hs.lt p.1.toNat (by omega)
   have e3 : pw p.1.toNat < pw n := by
    have := Vf p.1.toNat;have h5 : pw (p.1.toNat + 1) <= pw n := ZS (by omega);have := Vq p.1.toNat;omega
   exact Nat.or_lt_two_pow (Nat.or_lt_two_pow e1 e2) e3
  ·exact hs.lt b hb
 ·rw [cst, JZ _ _ _ _ (by rw [hs.len]; exact hb)] at h
  split at h
  ·rename_i hb2;have hE : Ed be p.1.toNat b := ⟨p, hp, by omega, by omega⟩;simp only [Nat.testBit_or, Bool.or_eq_true] at h;rcases h with (h | h) | h
   ·exact hs.snd a b hb (by rw [<- hb2]; exact h)
   ·exact (hs.snd a _ (by omega) h).more hE
   ·rw [Z5] at h;simp at h;subst h;exact .one hE
  ·exact hs.snd a b hb h
theorem Snd.rnd {n be out} (hv : Val n be) (hs : Snd n be out) : ∀ (l : List (Int × Int)), (∀ p ∈ l, p ∈ be) -> Snd n be (pas out l) := by
 intro l
 induction l generalizing out with
 | nil => intro _; exact hs
 | cons p l ih => intro h; exact ih (hs.step hv (h p (by simp))) fun q hq => h q (by simp [hq])
theorem ZoL (x y : Nat) : x <= x ||| y := Nat.left_le_or
def tot (l : List Nat) : Nat := l.foldr (· + ·) 0
theorem Zgd : ∀ (l : List Nat) (i v : Nat), i < l.length -> tot (l.set i v) + nth l i = tot l + v
 | [], i, v, h => by simp at h
 | x :: l, 0, v, h => by simp [tot, nth]; omega
 | x :: l, i + 1, v, h => by
  have := Zgd l i v (by simpa using h);simp only [List.set_cons_succ, tot, List.foldr_cons, nth, List.getD_cons_succ] at this ⊢;omega
theorem Zje : ∀ (l : List Nat) (m : Nat), (∀ i, i < l.length -> nth l i < m) -> tot l <= l.length * m
 | [], m, h => by simp [tot]
 | x :: l, m, h => by
  have h0 := h 0 (by simp)
  have := Zje l m fun i hi => by have := h (i + 1) (by simpa using hi); simpa [nth] using this
  simp only [tot, List.foldr_cons, List.length_cons, Nat.add_mul, nth, List.getD_cons_zero] at this h0 ⊢;omega
theorem Zfd (out : List Nat) (p : Int × Int) (h : p.2.toNat < out.length) : tot out <= tot (cst out p) /\ (tot (cst out p) = tot out -> cst out p = out) := by
 have e := Zgd out p.2.toNat (nth out p.2.toNat ||| nth out p.1.toNat ||| pw p.1.toNat) h;have h1 : nth out p.2.toNat <= nth out p.2.toNat ||| nth out p.1.toNat ||| pw p.1.toNat := Nat.le_trans (ZoL _ _) (ZoL _ _);refine ⟨by rw [cst]; omega, fun he => ?_⟩;rw [cst] at he ⊢
 have : nth out p.2.toNat ||| nth out p.1.toNat ||| pw p.1.toNat = nth out p.2.toNat := by omega
 rw [this];apply List.ext_getElem (by simp);intro i h2 h3;rw [List.getElem_set]
 split
 ·rename_i h4; subst h4; rw [Ze h]
 ·rfl
theorem Zdh (out l m) : pas out (l ++ m) = pas (pas out l) m := by simp [pas, List.foldl_append]
theorem Qu {n be} (hv : Val n be) : ∀ (l : List (Int × Int)) (out : List Nat), (∀ p ∈ l, p ∈ be) -> Snd n be out -> tot out <= tot (pas out l) /\ (tot (pas out l) = tot out -> pas out l = out /\ ∀ p ∈ l, cst out p = out)
 | [], out, _, _ => ⟨Nat.le_refl _, fun _ => ⟨rfl, fun p hp => by simp at hp⟩⟩
 | p :: l, out, hl, hs => by
  obtain ⟨h1, h2, h3, h4⟩ := hv p (hl p (by simp));have c := Zfd out p (by rw [hs.len]; omega);have r := Qu hv l (cst out p) (fun q hq => hl q (by simp [hq])) (hs.step hv (hl p (by simp)));refine ⟨Nat.le_trans c.1 r.1, fun e => ?_⟩;have e : tot (pas (cst out p) l) = tot out := e
  have e1 : tot (cst out p) = tot out := by have := r.1; have := c.1; omega
  have e2 := c.2 e1
  have e3 : tot (pas (cst out p) l) = tot (cst out p) := by rw [e1]; exact e
  obtain ⟨e4, e5⟩ := r.2 e3;rw [e2] at e4 e5;refine ⟨by show pas (cst out p) l = out; rw [e2]; exact e4, fun q hq => ?_⟩;rcases List.mem_cons.1 hq with rfl | hq
  ·exact e2
  ·exact e5 q hq
theorem Snd.clo {n be out} (hv : Val n be) (hs : Snd n be out) (h : tot (pas out be) = tot out) : Clo n be out := by
 have hc := ((Qu hv be out (fun _ h => h) hs).2 h).2
 have key : ∀ p ∈ be, ∀ a, (a = p.1.toNat \/ (nth out p.1.toNat).testBit a = true) -> (nth out p.2.toNat).testBit a = true := fun p hp a ha => by
  obtain ⟨h1, h2, h3, h4⟩ := hv p hp;have e := hc p hp
  have e2 : nth (cst out p) p.2.toNat = nth out p.2.toNat := by rw [e]
  rw [cst, JZ _ _ _ _ (by rw [hs.len]; omega)] at e2;simp only [if_true] at e2;rw [<- e2];simp only [Nat.testBit_or, Bool.or_eq_true, Z5, decide_eq_true_eq];rcases ha with rfl | ha
  ·exact .inr rfl
  ·exact .inl (.inr ha)
 refine ⟨hs, fun a b hab => ?_⟩
 induction hab with
 | one h =>
  obtain ⟨p, hp, e1, e2⟩ := h;have := key p hp p.1.toNat (.inl rfl);rwa [e1, e2] at this
 | more _ h ih =>
  obtain ⟨p, hp, e1, e2⟩ := h;have := key p hp _ (.inr (by rw [e1]; exact ih));rwa [e2] at this
theorem Clo.uniq {n be out out'} (hv : Val n be) (h : Clo n be out) (h' : Clo n be out') : out = out' := by
 apply List.ext_getElem (by rw [h.len, h'.len]);intro b h1 h2;rw [<- Ze h1, <- Ze h2];apply Nat.eq_of_testBit_eq;intro a;rw [Bool.eq_iff_iff];rw [h.len] at h1;exact ⟨fun e => h'.cmp a b (h.snd a b h1 e), fun e => h.cmp a b (h'.snd a b h1 e)⟩
theorem Snd.bound {n be out} (hs : Snd n be out) : tot out <= n * pw n := by
 have := Zje out (pw n) fun i hi => hs.lt i (by rw [<- hs.len]; exact hi);rwa [hs.len] at this
theorem Zji {n be} (hv : Val n be) : ∀ (k : Nat) (out : List Nat), Snd n be out -> n * pw n - tot out < k -> ∃ out', Clo n be out'
 | 0, out, _, h => by omega
 | k + 1, out, hs, h => by
  by_cases he : tot (pas out be) = tot out
  ·exact ⟨out, hs.clo hv he⟩
  ·have hp := hs.rnd hv be fun _ h => h;have := hp.bound;have := (Qu hv be out (fun _ h => h) hs).1;exact Zji hv k (pas out be) hp (by omega)
noncomputable def Q0 (n : Nat) (be : List (Int × Int)) : List Nat := open Classical in if h : ∃ out, Clo n be out then h.choose else []
theorem Jt {n be} (hv : Val n be) : Clo n be (Q0 n be) := by
 have h := Zji hv _ (List.replicate n 0) (Snd.zero n be) (Nat.lt_succ_self _);rw [Q0, dif_pos h];exact h.choose_spec
theorem Zg7 {n be out} (hv : Val n be) (h : Clo n be out) : Q0 n be = out := (Jt hv).uniq hv h
theorem Zaz {n be} (hv : Val n be) (a b : Nat) (hb : b < n) : (nth (Q0 n be) b).testBit a = true ↔ Ch be a b :=
 ⟨(Jt hv).snd a b hb, (Jt hv).cmp a b⟩
theorem Zcw {s b : Nat} (h : s.testBit b = false) (j : Nat) : (s + pw b).testBit j = (s.testBit j || decide (b = j)) := by
 have e1 : s = 2 ^ (b + 1) * (s / 2 ^ (b + 1)) + s % 2 ^ (b + 1) := (Nat.div_add_mod _ _).symm;have e2 : s % 2 ^ (b + 1) < 2 ^ (b + 1) := Nat.mod_lt _ (Nat.two_pow_pos _)
 have e3 : s % 2 ^ (b + 1) < 2 ^ b := by
  rw [Nat.testBit_eq_decide_div_mod_eq] at h;simp at h
  have h1 : s % 2 ^ (b + 1) = s % 2 ^ b + 2 ^ b * (s / 2 ^ b % 2) := by rw [Nat.pow_succ, Nat.mod_mul]
  rw [h1, h, Nat.mul_zero, Nat.add_zero];exact Nat.mod_lt _ (Nat.two_pow_pos _)
 generalize s / 2 ^ (b + 1) = q at e1;generalize s % 2 ^ (b + 1) = r at e1 e2 e3
 have hp : 2 ^ (b + 1) = 2 ^ b + 2 ^ b := by rw [Nat.pow_succ]; omega
 have e4 : s + pw b = 2 ^ (b + 1) * q + (2 ^ b * 1 + r) := by rw [e1, pw]; omega
 rw [e4, Nat.testBit_two_pow_mul_add _ (by omega), e1, Nat.testBit_two_pow_mul_add _ e2]
 by_cases hj : j < b + 1
 ·simp only [hj, if_true];rw [Nat.testBit_two_pow_mul_add _ e3]
  by_cases hj2 : j < b
  ·have : ¬ b = j := by omega
   simp [hj2, this]
  ·have : j = b := by omega
   subst this;simp
 ·have : ¬ b = j := by omega
  simp [hj, this]
def Xy (p : Nat -> Bool) : Nat -> Nat
 | 0 => 0
 | k + 1 => if p k then Xy p k + pw k else Xy p k
theorem Yv (p : Nat -> Bool) : ∀ k, Xy p k < pw k
 | 0 => by simp [Xy, pw]
 | k + 1 => by
  have := Yv p k;have := Vf k;simp only [Xy]
  split <;> omega
theorem YP (p : Nat -> Bool) : ∀ k j, (Xy p k).testBit j = (decide (j < k) && p j)
 | 0, j => by simp [Xy]
 | k + 1, j => by
  have hb : (Xy p k).testBit k = false := Nat.testBit_lt_two_pow (Yv p k);simp only [Xy]
  split
  ·rename_i hp;rw [Zcw hb, YP p k j]
   by_cases hj : k = j
   ·subst hj; simp [hp]
   ·have : decide (j < k + 1) = decide (j < k) := by simp only [decide_eq_decide]; omega
    simp [hj, this]
  ·rename_i hp;rw [YP p k j]
   by_cases hj : k = j
   ·subst hj; simp [hp]
   ·have : decide (j < k + 1) = decide (j < k) := by simp only [decide_eq_decide]; omega
    simp [this]
theorem Zcs {p : Nat -> Bool} {k x : Nat} (h : x < pw k) (hb : ∀ j, j < k -> x.testBit j = p j) : x = Xy p k := by
 apply Nat.eq_of_testBit_eq;intro j;rw [YP]
 by_cases hj : j < k
 ·simp [hj, hb j hj]
 ·have : x < 2 ^ j := Nat.lt_of_lt_of_le h (ZS (by omega));simp [hj, Nat.testBit_lt_two_pow this]
def pc (s : Nat) : Nat -> Nat
 | 0 => 0
 | k + 1 => pc s k + if s.testBit k then 1 else 0
theorem ZmC (s : Nat) : ∀ k, pc s k <= k
 | 0 => by simp [pc]
 | k + 1 => by have := ZmC s k; simp only [pc]; split <;> omega
theorem Ze5 {s b : Nat} (h : s.testBit b = false) : ∀ k, pc (s + pw b) k = pc s k + if b < k then 1 else 0
 | 0 => by simp [pc]
 | k + 1 => by
  simp only [pc, Ze5 h k, Zcw h]
  by_cases hb : b = k
  ·subst hb; simp [h]
  ·have : (b < k + 1) = (b < k) := by simp only [eq_iff_iff]; omega
   simp only [hb, decide_false, Bool.or_false, this];omega
def Kk (fr s : Nat) (p : Int × Int) : Nat := if (p.1.toNat = fr \/ s.testBit p.1.toNat = true) /\ s.testBit p.2.toNat = false then s + pw p.2.toNat else s
def Km (fr s : Nat) (l : List (Int × Int)) : Nat := l.foldl (Kk fr) s
def Ka (fr : Nat) (be : List (Int × Int)) : Nat -> Nat
 | 0 => 0
 | k + 1 => Km fr (Ka fr be k) be
def cls (fr s : Nat) (p : Int × Int) : Prop := (p.1.toNat = fr \/ s.testBit p.1.toNat = true) -> s.testBit p.2.toNat = true
structure RSnd (n fr : Nat) (be : List (Int × Int)) (s : Nat) : Prop where
 lt : s < pw n
 snd : ∀ j, s.testBit j = true -> Ch be fr j
theorem RSnd.step {n fr be s p} (hv : Val n be) (hs : RSnd n fr be s) (hp : p ∈ be) : RSnd n fr be (Kk fr s p) := by
 obtain ⟨h1, h2, h3, h4⟩ := hv p hp;unfold Kk
 split
 ·rename_i h;obtain ⟨ha, hb⟩ := h
  have hbits : ∀ j, (s + pw p.2.toNat).testBit j = true -> Ch be fr j := fun j hj => by
   rw [Zcw hb] at hj;simp only [Bool.or_eq_true, decide_eq_true_eq] at hj;rcases hj with hj | rfl
   ·exact hs.snd j hj
   ·have hE : Ed be p.1.toNat p.2.toNat := ⟨p, hp, by omega, by omega⟩;rcases ha with ha | ha
    ·rw [<- ha]; exact .one hE
    ·exact (hs.snd _ ha).more hE
  refine ⟨?_, hbits⟩;apply Nat.lt_of_not_le;intro hle;obtain ⟨j, hj, hj2⟩ := Nat.exists_ge_and_testBit_of_ge_two_pow hle;have := (hbits j hj2).lt hv;omega
 ·exact hs
theorem RSnd.pas {n fr be} (hv : Val n be) : ∀ (l : List (Int × Int)) {s}, RSnd n fr be s -> (∀ p ∈ l, p ∈ be) -> RSnd n fr be (Km fr s l)
 | [], s, hs, _ => hs
 | p :: l, s, hs, h => RSnd.pas hv l (hs.step hv (h p (by simp))) fun q hq => h q (by simp [hq])
theorem RSnd.rnd {n fr be} (hv : Val n be) : ∀ k, RSnd n fr be (Ka fr be k)
 | 0 => ⟨Vq n, fun j h => by simp [Ka] at h⟩
 | k + 1 => (RSnd.rnd hv k).pas hv be fun _ h => h
theorem K8 {n fr : Nat} : ∀ (l : List (Int × Int)) (s : Nat), (∀ p ∈ l, p.2.toNat < n) -> pc s n <= pc (Km fr s l) n /\ ((Km fr s l = s /\ ∀ p ∈ l, cls fr s p) \/ pc s n + 1 <= pc (Km fr s l) n)
 | [], s, _ => ⟨Nat.le_refl _, .inl ⟨rfl, fun p h => by simp at h⟩⟩
 | p :: l, s, h => by
  have ih := K8 (n := n) (fr := fr) l (Kk fr s p) fun q hq => h q (by simp [hq]);have hp := h p (by simp);have e : Km fr s (p :: l) = Km fr (Kk fr s p) l := rfl;rw [e]
  by_cases hc : (p.1.toNat = fr \/ s.testBit p.1.toNat = true) /\ s.testBit p.2.toNat = false
  ·have e1 : Kk fr s p = s + pw p.2.toNat := by simp [Kk, hc]
   have e2 := Ze5 hc.2 n;rw [e1] at ih ⊢;simp only [hp, if_true] at e2;exact ⟨by omega, .inr (by omega)⟩
  ·have e1 : Kk fr s p = s := by simp [Kk, hc]
   rw [e1] at ih ⊢;refine ⟨ih.1, ?_⟩;rcases ih.2 with ⟨i1, i2⟩ | i1
   ·refine .inl ⟨i1, fun q hq => ?_⟩;rcases List.mem_cons.1 hq with rfl | hq
    ·intro ha
     cases hb : s.testBit q.2.toNat with
     | true => rfl
     | false => exact absurd ⟨ha, hb⟩ hc
    ·exact i2 q hq
   ·exact .inr i1
theorem Zc1 {fr : Nat} : ∀ (l : List (Int × Int)) (s : Nat), (∀ p ∈ l, cls fr s p) -> Km fr s l = s
 | [], s, _ => rfl
 | p :: l, s, h => by
  have e1 : Kk fr s p = s := by
   unfold Kk
   split
   ·rename_i hc;have := h p (by simp) hc.1;rw [hc.2] at this; cases this
   ·rfl
  show Km fr (Kk fr s p) l = s
  rw [e1];exact Zc1 l s fun q hq => h q (by simp [hq])
theorem Kx {n fr : Nat} {be : List (Int × Int)} (hv : Val n be) : ∀ k, (∀ p ∈ be, cls fr (Ka fr be k) p) \/ k <= pc (Ka fr be k) n
 | 0 => .inr (Nat.zero_le _)
 | k + 1 => by
  rcases Kx (fr := fr) hv k with h | h
  ·left
   show ∀ p ∈ be, cls fr (Km fr (Ka fr be k) be) p
   rw [Zc1 be _ h]; exact h
  ·obtain ⟨_, h2⟩ := K8 (n := n) (fr := fr) be (Ka fr be k) fun p hp => by have := hv p hp; omega
   rcases h2 with ⟨h2, h3⟩ | h2
   ·left
    show ∀ p ∈ be, cls fr (Km fr (Ka fr be k) be) p
    rw [h2]; exact h3
   ·right
    show k + 1 <= pc (Km fr (Ka fr be k) be) n
    omega
noncomputable def rch (n : Nat) (be : List (Int × Int)) (fr : Nat) : Nat := Xy (fun b => (nth (Q0 n be) b).testBit fr) n
theorem ZsQ (n be fr) : rch n be fr < pw n := Yv _ _
theorem ZkI (n be fr j) : (rch n be fr).testBit j = (decide (j < n) && (nth (Q0 n be) j).testBit fr) := YP _ _ _
theorem Zhw {n fr : Nat} {be : List (Int × Int)} (hv : Val n be) : Ka fr be (n + 1) = rch n be fr := by
 have hs := RSnd.rnd (fr := fr) hv (n + 1)
 have hcl : ∀ p ∈ be, cls fr (Ka fr be (n + 1)) p := by
  rcases Kx (fr := fr) hv (n + 1) with h | h
  ·exact h
  ·have := ZmC (Ka fr be (n + 1)) n;omega
 refine Zcs hs.lt fun j hj => ?_;rw [Bool.eq_iff_iff, Zaz hv fr j hj];refine ⟨hs.snd j, fun h => ?_⟩;clear hj
 induction h with
 | one h =>
  obtain ⟨p, hp, e1, e2⟩ := h;have := hcl p hp (.inl (by omega));rwa [e2, Int.toNat_natCast] at this
 | more _ h ih =>
  obtain ⟨p, hp, e1, e2⟩ := h;have := hcl p hp (.inr (by rw [e1, Int.toNat_natCast]; exact ih));rwa [e2, Int.toNat_natCast] at this
end Go.Proofs.YtcdoglogglbemaaGreatDoor.K
