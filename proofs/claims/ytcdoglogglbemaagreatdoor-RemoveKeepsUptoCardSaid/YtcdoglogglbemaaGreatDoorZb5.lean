/- Declarations that the closing texts need, part 5: joined by tools/slim.py. -/
import Derived.Test.YtcdoglogglbemaaGreatDoorZb4
set_option linter.unusedVariables false
set_option linter.unusedSimpArgs false
universe u
namespace Go.AM
open Go.RowKit
structure Tk {α : Sort u} (a : α) : Type where
def Zv {α : Sort u} (a : α) (_ : Tk a) : α := a
@[go_sem] theorem ZqM {α β : Type} {f : α -> β} {t x} : Zv f t x = f x := Eq.trans rfl rfl
@[go_sem ↓] theorem ZnS {α β : Type} {f : α -> β -> Prop} {t x y} : Zv f t x y = f x y := Eq.trans rfl rfl
@[go_sem ↓] theorem Zpl {α β γ : Type} {f : α -> β -> γ -> Prop} {t x y z} : Zv f t x y z = f x y z := Eq.trans rfl rfl
def pst (x : Option V) (K : V -> Prop) : Prop := match x with | some v => K v | none => False
def mst (x : Option (V × List Obj)) (K : V -> List Obj -> Prop) : Prop := match x with | some (v, H) => K v H | none => False
def bst (x : V) (K : Bool -> Prop) : Prop := match x with | .p (.bool b) => K b | _ => False
def hst (x : Option (List Obj)) (K : List Obj -> Prop) : Prop := match x with | some H => K H | none => False
@[go_sem ↓, go_sem] theorem Zvn {v K} : pst (some v) K = K v := Eq.trans rfl rfl
@[go_sem ↓, go_sem] theorem ZtM {v H K} : mst (some (v, H)) K = K v H := Eq.trans rfl rfl
@[go_sem ↓, go_sem] theorem Zvg {H K} : hst (some H) K = K H := Eq.trans rfl rfl
@[congr] theorem ZoJ {x x' K} (h : x = x') : pst x K = pst x' K := by rw [h]
@[congr] theorem Zq2 {x x' K} (h : x = x') : mst x K = mst x' K := by rw [h]
@[congr] theorem ZsH {x x' K} (h : x = x') : hst x K = hst x' K := by rw [h]
def idF (fr : List V) : List V := fr
@[go_sem] theorem ZAI {fr} : idF fr = fr := Eq.trans rfl rfl
section code
variable {cuts : List Nat} {P : Program} {fr : List V} {H : List Obj} {Q : Exit -> List V -> List Obj -> Prop}
@[go_sem ↓] theorem ZtK : awp cuts P .skip fr H Q = Q .normal fr H := Eq.trans rfl rfl
@[go_sem ↓] theorem Zl1 {id} {l : List Oper} : awp cuts P (.region id l.toArray false) fr H Q = Yg P (l.map (·.dst)) l (idF fr) H (Zv (Q .normal) ⟨⟩) := by simp [awp, idF, Zv]
@[go_sem ↓] theorem Zny {id ops} : awp cuts P (.region id ops true) fr H Q = AWP P (.region id (Zv ops ⟨⟩) true) fr H (Zv Q ⟨⟩) := by simp [awp, Zv]
@[go_sem ↓] theorem ZvW {x y} : awp [] P (.seq x y) fr H Q = awp [] P x fr H (VZ (fun fr H => awp [] P y fr H Q) Q) := by
 rw [awp]; cases hid x <;> simp
def Zjm (b : Bool) (A B : Prop) : Prop := if b then A else B
def Zbt (cuts : List Nat) : Option Nat -> Bool
 | some i => cuts.contains i
 | none => false
@[go_sem ↓] theorem ZrT {k x y} : awp (k :: cuts) P (.seq x y) fr H Q = Zjm (Zbt (k :: cuts) (hid x)) (Zv (AWP P (.seq (Zv x ⟨⟩) (Zv y ⟨⟩)) fr H (Zv Q ⟨⟩)) ⟨⟩) (Zv (awp (k :: cuts) P x fr H (VZ (fun fr H => awp (k :: cuts) P y fr H Q) Q)) ⟨⟩) := by
 rw [awp]; cases hid x <;> simp [Zjm, Zbt, Zv]
@[go_sem ↓, go_sem] theorem Zop {A B : Prop} {t} : Zjm true (Zv A t) B = A := by simp [Zjm, Zv]
@[go_sem ↓, go_sem] theorem Zm4 {A B : Prop} {t} : Zjm false A (Zv B t) = B := by simp [Zjm, Zv]
theorem Zdo {b b' A B} (h : b = b') : Zjm b A B = Zjm b' A B := by rw [h]
@[go_sem ↓] theorem Znd {id ops d} : hid (.region id ops d) = some id := Eq.trans rfl rfl
@[go_sem ↓] theorem Zxs {x y} : hid (.seq x y) = hid x := Eq.trans rfl rfl
@[go_sem ↓] theorem Zq5 {id c} : hid (.block id c) = hid c := Eq.trans rfl rfl
@[go_sem ↓] theorem Zus {c x y} : hid (.cond c x y) = none := Eq.trans rfl rfl
@[go_sem] theorem Zno : Zbt cuts none = false := Eq.trans rfl rfl
@[go_sem] theorem Zpz {i} : Zbt [] (some i) = false := Eq.trans rfl rfl
@[go_sem] theorem Znn {k i} : Zbt (k :: cuts) (some i) = (decide (i = k) || Zbt cuts (some i)) := by by_cases h : i = k <;> simp [Zbt, h]
@[go_sem ↓] theorem Zqx {c x y} : awp cuts P (.cond c x y) fr H Q = WT (ev fr c) (Zv (awp cuts P x fr H Q) ⟨⟩) (Zv (awp cuts P y fr H Q) ⟨⟩) := Eq.trans rfl rfl
@[go_sem ↓] theorem ZnI {id c} : awp cuts P (.block id c) fr H Q = awp cuts P c fr H (WN id Q) := Eq.trans rfl rfl
@[go_sem ↓] theorem ZqQ {id} : awp cuts P (.exit id) fr H Q = Q (.exit id) fr H := Eq.trans rfl rfl
@[go_sem ↓] theorem ZuO : awp cuts P .ret fr H Q = Q .ret fr H := Eq.trans rfl rfl
@[go_sem ↓] theorem ZoZ {c} : awp cuts P (.loop c) fr H Q = AWP P (.loop (Zv c ⟨⟩)) fr H (Zv Q ⟨⟩) := Eq.trans rfl rfl
@[go_sem ↓] theorem ZsI {c t} : awp cuts P (Zv c t) fr H Q = awp cuts P c fr H Q := Eq.trans rfl rfl
theorem Zeu {c fr' H'} (h : fr = fr') (h2 : H = H') : awp cuts P c fr H Q = awp cuts P c fr' H' Q := by rw [h, h2]
theorem Zfi {c fr' H'} (h : fr = fr') (h2 : H = H') : AWP P c fr H Q = AWP P c fr' H' Q := by rw [h, h2]
@[go_sem ↓] theorem Zjp {A : List V -> List Obj -> Prop} : VZ A Q .normal fr H = A fr H := Eq.trans rfl rfl
@[go_sem ↓] theorem ZmW {A : List V -> List Obj -> Prop} {id} : VZ A Q (.exit id) fr H = Q (.exit id) fr H := Eq.trans rfl rfl
@[go_sem ↓] theorem Ztf {A : List V -> List Obj -> Prop} : VZ A Q .ret fr H = Q .ret fr H := Eq.trans rfl rfl
@[go_sem ↓] theorem Zim {id} : WN id Q .normal fr H = Q .normal fr H := Eq.trans rfl rfl
@[go_sem ↓] theorem Znl {id} : WN id Q .ret fr H = Q .ret fr H := Eq.trans rfl rfl
@[go_sem ↓] theorem Zls {id id'} : WN id Q (.exit id') fr H = if id' = id then Q .normal fr H else Q (.exit id') fr H := Eq.trans rfl rfl
theorem Za4 {A : List V -> List Obj -> Prop} {e fr' H'} (h : fr = fr') (h2 : H = H') : VZ A Q e fr H = VZ A Q e fr' H' := by rw [h, h2]
theorem KC {id e fr' H'} (h : fr = fr') (h2 : H = H') : WN id Q e fr H = WN id Q e fr' H' := by rw [h, h2]
@[go_sem ↓] theorem Zle {rs} {Q : V -> List Obj -> Prop} : Zcv P rs Q .normal fr H = mst ((XT P fr H rs).map fun xs => (WP xs, H)) (Zv Q ⟨⟩) := by
 simp only [Zcv, Zv]; split <;> simp_all [mst]
@[go_sem ↓] theorem ZvO {rs} {Q : V -> List Obj -> Prop} : Zcv P rs Q .ret fr H = mst ((XT P fr H rs).map fun xs => (WP xs, H)) (Zv Q ⟨⟩) := by
 simp only [Zcv, Zv]; split <;> simp_all [mst]
theorem Zd1 {rs e fr' H'} {Q : V -> List Obj -> Prop} (h : fr = fr') (h2 : H = H') : Zcv P rs Q e fr H = Zcv P rs Q e fr' H' := by rw [h, h2]
@[go_sem] theorem ZnO : XT P fr H [] = some [] := Eq.trans rfl rfl
@[go_sem] theorem Znx {t l} : XT P fr H (.tmp t :: l) = (XT P fr H l).map (gt fr t :: ·) := by
 simp only [XT, ZnK]; cases XT P fr H l <;> rfl
@[go_sem] theorem Zma {a t l} : XT P fr H (.cell a t :: l) = (Ua P H t (gt fr a)).bind fun x => (XT P fr H l).map (x :: ·) := by
 simp only [XT, ZnK]; cases Ua P H t (gt fr a) <;> cases XT P fr H l <;> rfl
@[go_sem] theorem ZnN {x} : WP [x] = x := Eq.trans rfl rfl
@[go_sem] theorem Zlb : WP [] = .tup [] := Eq.trans rfl rfl
@[go_sem] theorem Zdx {x y l} : WP (x :: y :: l) = .tup (x :: y :: l) := Eq.trans rfl rfl
end code
attribute [congr] Zdo Zeu Zfi Za4 KC Zd1
@[go_sem] theorem Zx6 {x : V} {l} : gt (x :: l) 0 = x := Eq.trans rfl rfl
@[go_sem] theorem Zv9 {x : V} {l n} : gt (x :: l) (n + 1) = gt l n := Eq.trans rfl rfl
@[go_sem] theorem ZAf {n} : gt [] n = .junk := Eq.trans rfl rfl
@[go_sem] theorem Zws {x v : V} {l} : pt (x :: l) 0 v = v :: l := Eq.trans rfl rfl
@[go_sem] theorem ZyI {x v : V} {l n} : pt (x :: l) (n + 1) v = x :: pt l n v := Eq.trans rfl rfl
@[go_sem] theorem Zu1 {fr d v} : ptO fr (some d) v = pt fr d v := Eq.trans rfl rfl
@[go_sem] theorem ZvJ {fr v} : ptO fr none v = fr := Eq.trans rfl rfl
@[go_sem] theorem Zt5 {x : Obj} {l} : oat (x :: l) 0 = x := Eq.trans rfl rfl
@[go_sem] theorem Zvq {x : Obj} {l n} : oat (x :: l) (n + 1) = oat l n := Eq.trans rfl rfl
@[go_sem] theorem Zua {x v : Obj} {l} : ost (x :: l) 0 v = v :: l := Eq.trans rfl rfl
@[go_sem] theorem ZvM {x v : Obj} {l n} : ost (x :: l) (n + 1) v = x :: ost l n v := Eq.trans rfl rfl
@[go_sem] theorem Zwq {fr t} : evx fr (.tmp t) = gt fr t := Eq.trans rfl rfl
@[go_sem] theorem ZzU {fr t} : ev fr (.tmp t) = gt fr t := Eq.trans rfl rfl
@[go_sem] theorem ZxO {fr f} : ev fr (.func f) = .fn (.func f) [] [] := Eq.trans rfl rfl
@[go_sem] theorem Zz2 {fr k n} : ev fr (.const (.int k n)) = .p (.int k n) := Eq.trans rfl rfl
@[go_sem] theorem Zw3 {fr b} : ev fr (.const (.bool b)) = .p (.bool b) := Eq.trans rfl rfl
@[go_sem] theorem ZAE {fr s} : ev fr (.const (.string s)) = .p (.str s.data.toList) := Eq.trans rfl rfl
@[go_sem] theorem Zyl {fr} : ev fr (.const (.slice none 0 0)) = .p (.list true []) := Eq.trans rfl rfl
@[go_sem] theorem Zzz {fr l} : ev fr (.const (.agg (List.toArray l))) = match cvs l with | some xs => .p (.agg xs) | none => .junk := Eq.trans rfl rfl
@[go_sem] theorem ZuE {fr d} {l : List (Option Nat)} : gAt fr (some d :: l) 0 = gt fr d := by simp [gAt]
@[go_sem] theorem ZvX {fr o n} {l : List (Option Nat)} : gAt fr (o :: l) (n + 1) = gAt fr l n := by simp [gAt]
section ops
variable {P : Program} {fr : List V} {H : List Obj} {ds : List (Option Nat)} {K : List V -> List Obj -> Prop} {r : List Oper} {d : Option Nat} {t : TypeId} {ps : String} {af : Array Edge} {g : Option (Nat × Bool)} {k : V -> List Obj -> Prop}
theorem ZcY {l fr' H'} (h : fr = fr') (h2 : H = H') : Yg P ds l fr H K = Yg P ds l fr' H' K := by rw [h, h2]
theorem Zbx {o fr' H'} (h : fr = fr') (h2 : H = H') : Zr P o fr H k = Zr P o fr' H' k := by rw [h, h2]
@[go_sem ↓] theorem Zt7 : Yg P ds [] fr H K = K fr H := Eq.trans rfl rfl
@[go_sem] theorem ZsE {op} : Yg P ds (⟨d, op, t, ps, af, none⟩ :: r) fr H K = Zr P ⟨d, op, t, ps, af, none⟩ fr H (Zv (fun x H' => Yg P ds r (ptO fr d x) H' K) ⟨⟩) := Eq.trans rfl rfl
@[go_sem] theorem Zm1 {op j b} : Yg P ds (⟨d, op, t, ps, af, some (j, b)⟩ :: r) fr H K = ZZ (gAt fr ds j) b (Zv (Zr P ⟨d, op, t, ps, af, none⟩ fr H (Zv (fun x H' => Yg P ds r (ptO fr d x) H' K) ⟨⟩)) ⟨⟩) (Zv (Yg P ds r (ptO fr d (.tup [])) H K) ⟨⟩) := by
 simp only [Yg, Zv];unfold ZZ
 split <;> rfl
theorem ZF {op : Op} (h : XG op = none) (h2 : WQ P op fr H = none) : Zr P ⟨d, op, t, ps, af, g⟩ fr H k = pst (ZC P op fr H) fun x => k x H := by
 simp only [Zr, h, aop, h2]
 all_goals (cases ZC P op fr H <;> rfl)
theorem Xx {op : Op} (h : XG op = none) (h2 : ZC P op fr H = none) : Zr P ⟨d, op, t, ps, af, g⟩ fr H k = mst (WQ P op fr H) k := by
 simp only [Zr, h, aop, h2, mst]
 all_goals (cases WQ P op fr H <;> rfl)
@[go_sem ↓] theorem ZnL {x} : Zr P ⟨d, .move x, t, ps, af, g⟩ fr H k = k (ev fr x) H := by rw [ZF rfl rfl]; rfl
@[go_sem ↓] theorem Zki {x} : Zr P ⟨d, .assign x, t, ps, af, g⟩ fr H k = k (ev fr x) H := by rw [ZF rfl rfl]; rfl
def vif (b : Bool) (x y : V) : V := if b then x else y
@[go_sem] theorem ZuR {x y} : vif true x y = x := Eq.trans rfl rfl
@[go_sem] theorem Zri {x y} : vif false x y = y := Eq.trans rfl rfl
@[go_sem] theorem ZvR {b x y} : vif b (.p (.bool x)) (.p (.bool y)) = .p (.bool (if b then x else y)) := by cases b <;> rfl
@[go_sem] theorem Zux {b} : asB (.p (.bool b)) = some b := Eq.trans rfl rfl
@[go_sem ↓] theorem Znp {c x y} : Zr P ⟨d, .pick c x y, t, ps, af, g⟩ fr H k = pst ((asB (ev fr c)).map fun b => vif b (ev fr x) (ev fr y)) (Zv (fun v => k v H) ⟨⟩) := by
 rw [ZF rfl rfl];simp only [ZC, Xj]
 cases asB (ev fr c) <;> rfl
@[go_sem ↓] theorem Zna {u x} : Zr P ⟨d, .load u x, t, ps, af, g⟩ fr H k = pst (Ua P H u (ev fr x)) (Zv (fun v => k v H) ⟨⟩) := by rw [ZF rfl rfl]; rfl
@[go_sem ↓] theorem Zo9 {op u x y u2} : Zr P ⟨d, .binOp op u x y u2, t, ps, af, g⟩ fr H k = pst ((Yb P op u (ev fr x) (ev fr y)).map .p) (Zv (fun v => k v H) ⟨⟩) := by rw [ZF rfl rfl]; rfl
@[go_sem ↓] theorem ZvE {op u x} : Zr P ⟨d, .unOp op u x, t, ps, af, g⟩ fr H k = pst ((aun op (ev fr x)).map .p) (Zv (fun v => k v H) ⟨⟩) := by rw [ZF rfl rfl]; rfl
def ZlB (x y : Option PV) : Option PV := match x with | some z => some z | none => y
@[go_sem] theorem Znc {z y} : ZlB (some z) y = some z := Eq.trans rfl rfl
@[go_sem] theorem ZnJ {y} : ZlB none y = y := Eq.trans rfl rfl
@[go_sem ↓] theorem Zm3 {s u x} : Zr P ⟨d, .convert s u x, t, ps, af, g⟩ fr H k = pst ((ZlB (Jk P H s u (ev fr x)) (ZfZ P s u (ev fr x))).map .p) (Zv (fun v => k v H) ⟨⟩) := by
 rw [ZF rfl rfl];simp only [ZC, Xj]
 cases Jk P H s u (ev fr x) <;> rfl
@[go_sem ↓] theorem Zg0 {f cs es} : Zr P ⟨d, .makeFunc f (List.toArray cs) (List.toArray es), t, ps, af, g⟩ fr H k = k (.fn f (cs.map (ev fr)) (es.map (ev fr))) H := by rw [ZF rfl rfl]; rfl
@[go_sem ↓] theorem ZkQ {u x lo hi mx} : Zr P ⟨d, .slice u x lo hi mx, t, ps, af, g⟩ fr H k = pst (XK P H u fr (ev fr x) lo hi mx) (Zv (fun v => k v H) ⟨⟩) := by rw [ZF rfl rfl]; rfl
@[go_sem ↓] theorem Zgk {s x f} : Zr P ⟨d, .fieldAddr s x f, t, ps, af, g⟩ fr H k = pst (VP P H s f (ev fr x)) (Zv (fun v => k v H) ⟨⟩) := by rw [ZF rfl rfl]; rfl
@[go_sem ↓] theorem Zez {u x i} : Zr P ⟨d, .indexAddr u x i, t, ps, af, g⟩ fr H k = pst (WO P H u (evx fr x) (ev fr i)) (Zv (fun v => k v H) ⟨⟩) := by rw [ZF rfl rfl]; rfl
@[go_sem ↓] theorem Zk5 {u x i} : Zr P ⟨d, .index u x i, t, ps, af, g⟩ fr H k = pst (ZeL P u (ev fr x) (ev fr i)) (Zv (fun v => k v H) ⟨⟩) := by rw [ZF rfl rfl]; rfl
def axt (x : V) (i : Nat) : Option V := match x with | .tup vs => vs[i]? | _ => none
@[go_sem] theorem ZyX {vs i} : axt (.tup vs) i = vs[i]? := Eq.trans rfl rfl
@[go_sem ↓] theorem Zih {x i} : Zr P ⟨d, .extract x i, t, ps, af, g⟩ fr H k = pst (axt (ev fr x) i) (Zv (fun v => k v H) ⟨⟩) := by
 rw [ZF rfl rfl];simp only [ZC, Xj]
 cases ev fr x <;> rfl
@[go_sem ↓] theorem Zmb {u l} : Zr P ⟨d, .build u (List.toArray l), t, ps, af, g⟩ fr H k = pst (Zah P H u (l.map fun x => (x.1, ev fr x.2))) (Zv (fun v => k v H) ⟨⟩) := by rw [ZF rfl rfl]; rfl
@[go_sem ↓] theorem ZrI {x u} : Zr P ⟨d, .call ⟨.builtin .len, #[x], #[u]⟩, t, ps, af, g⟩ fr H k = pst ((Zs3 P H u (ev fr x)).map .p) (Zv (fun v => k v H) ⟨⟩) := by rw [ZF rfl rfl]; rfl
@[go_sem ↓] theorem ZoR {x y us} : Zr P ⟨d, .call ⟨.builtin .max, #[x, y], us⟩, t, ps, af, g⟩ fr H k = pst ((J9 false [ev fr x, ev fr y]).map .p) (Zv (fun v => k v H) ⟨⟩) := by
 rw [ZF rfl rfl]; simp only [ZC, Xj, KB]; rfl
@[go_sem ↓] theorem Zsw {x y us} : Zr P ⟨d, .call ⟨.builtin .min, #[x, y], us⟩, t, ps, af, g⟩ fr H k = pst ((J9 true [ev fr x, ev fr y]).map .p) (Zv (fun v => k v H) ⟨⟩) := by
 rw [ZF rfl rfl]; simp only [ZC, Xj, KB]; rfl
@[go_sem ↓] theorem Zk6 {u} : Zr P ⟨d, .alloc u, t, ps, af, g⟩ fr H k = mst ((ZU P u).map fun zs => (.ptr H.length 0, H ++ [.cells (zs.map .p)])) (Zv k ⟨⟩) := by rw [Xx rfl rfl]; rfl
@[go_sem ↓] theorem ZtF {u x} : Zr P ⟨d, .box u x, t, ps, af, g⟩ fr H k = mst ((vc H (ev fr x)).map fun cs => (.ptr H.length 0, H ++ [.cells cs])) (Zv k ⟨⟩) := by rw [Xx rfl rfl]; rfl
def ZyE (H : List Obj) (n : Option Nat) (a : V) (cs : Option (List V)) : Option (List Obj) := n.bind fun n => cs.bind fun cs => Ur H n a cs
@[go_sem] theorem ZrU {n a cs} : ZyE H (some n) a (some cs) = Ur H n a cs := Eq.trans rfl rfl
@[go_sem ↓] theorem ZlX {u x y} : Zr P ⟨d, .store u x y, t, ps, af, g⟩ fr H k = hst (ZyE H (tsz P u) (ev fr x) (vc H (ev fr y))) (Zv (k .junk) ⟨⟩) := by
 rw [Xx rfl rfl];simp only [WQ, ZyE]
 cases tsz P u <;> cases vc H (ev fr y) <;> simp [hst, mst, Zv]
 cases Ur H _ (ev fr x) _ <;> rfl
@[go_sem ↓] theorem Zd2 {u n l} : Zr P ⟨d, .buildSlice u n (List.toArray l), t, ps, af, g⟩ fr H k = mst (WQ P (.buildSlice u n (List.toArray l)) fr H) (Zv k ⟨⟩) := by rw [Xx rfl rfl]; rfl
@[go_sem ↓] theorem ZhT {u} : Zr P ⟨d, .makeMap u none, t, ps, af, g⟩ fr H k = k (.mp H.length) (H ++ [.map []]) := by rw [Xx rfl rfl]; rfl
@[go_sem ↓] theorem Zj9 {u x y ok} : Zr P ⟨d, .lookup u x y ok, t, ps, af, g⟩ fr H k = mst (Zdw P H u (ev fr x) (ev fr y) ok) (Zv k ⟨⟩) := by rw [Xx rfl rfl]; rfl
@[go_sem ↓] theorem Zne {u x y z} : Zr P ⟨d, .mapUpdate u x y z, t, ps, af, g⟩ fr H k = mst (Zdg P H u (ev fr x) (ev fr y) (ev fr z)) (Zv k ⟨⟩) := by rw [Xx rfl rfl]; rfl
@[go_sem ↓] theorem ZfS {u x y} : Zr P ⟨d, .makeSlice u x y, t, ps, af, g⟩ fr H k = mst (WQ P (.makeSlice u x y) fr H) (Zv k ⟨⟩) := by rw [Xx rfl rfl]; rfl
@[go_sem ↓] theorem Zlj {x u} : Zr P ⟨d, .call ⟨.builtin .clear, #[x], #[u]⟩, t, ps, af, g⟩ fr H k = mst (Up P H u (ev fr x)) (Zv k ⟨⟩) := by rw [Xx rfl rfl]; rfl
@[go_sem ↓] theorem Zkk {x y u u2} : Zr P ⟨d, .call ⟨.builtin .append, #[x, y], #[u, u2]⟩, t, ps, af, g⟩ fr H k = mst (QB P H u u2 (ev fr x) (ev fr y)) (Zv k ⟨⟩) := by rw [Xx rfl rfl]; rfl
@[go_sem ↓] theorem Znf {f azs ts} : Zr P ⟨d, .call ⟨.value f, List.toArray azs, ts⟩, t, ps, af, g⟩ fr H k = ZaF P (ev fr f) (azs.map (ev fr)) H (Zv k ⟨⟩) := Eq.trans rfl rfl
@[go_sem ↓] theorem Zvk {f fs cs azs} : ZaF P (.fn (.func f) fs cs) azs H k = ACalls P f (fs ++ azs ++ cs) H k := Eq.trans rfl rfl
@[go_sem ↓] theorem ZqZ {f azs} : ZaF P (.p (.fn f)) azs H k = ACalls P f azs H k := Eq.trans rfl rfl
theorem ZbA {f f' azs as'} (h : f = f') (h2 : azs = as') : ZaF P f azs H k = ZaF P f' as' H k := by rw [h, h2]
theorem Zab {f azs as' H'} (h2 : azs = as') (h3 : H = H') : ACalls P f azs H k = ACalls P f as' H' k := by rw [h2, h3]
theorem ZaP {x x' A B} (h : x = x') : WT x A B = WT x' A B := by rw [h]
theorem K4 {x x' b A B} (h : x = x') : ZZ x b A B = ZZ x' b A B := by rw [h]
@[go_sem ↓, go_sem] theorem Znm {A : Prop} {t B'} : WT (.p (.bool true)) (Zv A t) B' = A := by simp [WT, Zv]
@[go_sem ↓, go_sem] theorem ZkK {B : Prop} {t B'} : WT (.p (.bool false)) B' (Zv B t) = B := by simp [WT, Zv]
@[go_sem ↓, go_sem] theorem Zoi {A : Prop} {t B} : ZZ (.p (.bool true)) true (Zv A t) B = A := by simp [ZZ, Zv]
@[go_sem ↓, go_sem] theorem ZsN {B : Prop} {t A} : ZZ (.p (.bool true)) false A (Zv B t) = B := by simp [ZZ, Zv]
@[go_sem ↓, go_sem] theorem ZpF {B : Prop} {t A} : ZZ (.p (.bool false)) true A (Zv B t) = B := by simp [ZZ, Zv]
@[go_sem ↓, go_sem] theorem ZpP {A : Prop} {t B} : ZZ (.p (.bool false)) false (Zv A t) B = A := by simp [ZZ, Zv]
@[go_sem ↓, go_sem] theorem Zlv {b} {B : Prop} {t A} : ZZ (.tup []) b A (Zv B t) = B := by simp [ZZ, Zv]
theorem Xc {c : Bool} {A B : Prop} {t t'} (h1 : c = true -> A) (h2 : c = false -> B) : WT (.p (.bool c)) (Zv A t) (Zv B t') := ⟨h1, h2⟩
theorem ZR {c : Bool} {A B : Prop} {t t'} (h1 : c = true -> A) (h2 : c = false -> B) : ZZ (.p (.bool c)) true (Zv A t) (Zv B t') := ⟨h1, fun h => h2 (by simpa using h)⟩
theorem ZS {c : Bool} {A B : Prop} {t t'} (h1 : c = true -> B) (h2 : c = false -> A) : ZZ (.p (.bool c)) false (Zv A t) (Zv B t') := ⟨h2, fun h => h1 (by simpa using h)⟩
class Dc (c : Bool) (p q : outParam Prop) : Prop where
 t : c = true -> p
 f : c = false -> q
instance dcD {p : Prop} [Decidable p] : Dc (decide p) p (¬p) := ⟨of_decide_eq_true, of_decide_eq_false⟩
instance (priority := low) dcB {c : Bool} : Dc c (c = true) (c = false) := ⟨id, id⟩
theorem cD {c : Bool} {A B p q : Prop} {t t'} [d : Dc c p q] (h1 : p -> A) (h2 : q -> B) : WT (.p (.bool c)) (Zv A t) (Zv B t') := Xc (fun h => h1 (d.t h)) (fun h => h2 (d.f h))
theorem gT {c : Bool} {A B p q : Prop} {t t'} [d : Dc c p q] (h1 : p -> A) (h2 : q -> B) : ZZ (.p (.bool c)) true (Zv A t) (Zv B t') := ZR (fun h => h1 (d.t h)) (fun h => h2 (d.f h))
theorem gF {c : Bool} {A B p q : Prop} {t t'} [d : Dc c p q] (h1 : p -> B) (h2 : q -> A) : ZZ (.p (.bool c)) false (Zv A t) (Zv B t') := ZS (fun h => h1 (d.t h)) (fun h => h2 (d.f h))
@[go_sem] theorem Zyz {p : Prop} [Decidable p] : (!decide p) = decide (¬p) := by simp
end ops
attribute [congr] ZcY Zbx ZbA Zab ZaP K4
section vals
variable {P : Program} {H : List Obj} {k : IntKind} {t u : TypeId}
@[go_sem] theorem ZtW {a b} : Yb P .add t (.p (.int k a)) (.p (.int k b)) = some (.int k (k.wrap (a + b))) := by simp [Yb, QH]
@[go_sem] theorem Zvd {a b} : Yb P .sub t (.p (.int k a)) (.p (.int k b)) = some (.int k (k.wrap (a - b))) := by simp [Yb, QH]
@[go_sem] theorem Zg8 {a b} : Yb P .mul t (.p (.int k a)) (.p (.int k b)) = some (.int k (k.wrap (a * b))) := by simp [Yb, QH]
@[go_sem] theorem Zjb {a b} (h : b ≠ 0) : Yb P .quo t (.p (.int k a)) (.p (.int k b)) = some (.int k (k.wrap (a.tdiv b))) := by simp [Yb, QH, h]
@[go_sem] theorem Zii {a b} (h : b ≠ 0) : Yb P .rem t (.p (.int k a)) (.p (.int k b)) = some (.int k (a.tmod b)) := by simp [Yb, QH, h]
@[go_sem] theorem Zhy {a b} : Yb P .and t (.p (.int k a)) (.p (.int k b)) = some (.int k (k.wrap ((BitVec.ofInt k.bits a &&& BitVec.ofInt k.bits b).toNat : Int))) := by simp [Yb, QH]
@[go_sem] theorem ZgN {a b} : Yb P .or t (.p (.int k a)) (.p (.int k b)) = some (.int k (k.wrap ((BitVec.ofInt k.bits a ||| BitVec.ofInt k.bits b).toNat : Int))) := by simp [Yb, QH]
@[go_sem] theorem Za5 {a b} : Yb P .andNot t (.p (.int k a)) (.p (.int k b)) = some (.int k (k.wrap ((BitVec.ofInt k.bits a &&& ~~~(BitVec.ofInt k.bits b)).toNat : Int))) := by simp [Yb, QH]
@[go_sem] theorem ZtL {a b} : Yb P .eql t (.p (.int k a)) (.p (.int k b)) = some (.bool (decide (a = b))) := by simp [Yb, QH]
@[go_sem] theorem Zu5 {a b} : Yb P .neq t (.p (.int k a)) (.p (.int k b)) = some (.bool (decide (¬ a = b))) := by simp [Yb, QH]
@[go_sem] theorem Zu2 {a b} : Yb P .lss t (.p (.int k a)) (.p (.int k b)) = some (.bool (decide (a < b))) := by simp [Yb, QH]
@[go_sem] theorem Zuj {a b} : Yb P .leq t (.p (.int k a)) (.p (.int k b)) = some (.bool (decide (a <= b))) := by simp [Yb, QH]
@[go_sem] theorem Zt2 {a b} : Yb P .gtr t (.p (.int k a)) (.p (.int k b)) = some (.bool (decide (b < a))) := by simp [Yb, QH]
@[go_sem] theorem Zu3 {a b} : Yb P .geq t (.p (.int k a)) (.p (.int k b)) = some (.bool (decide (b <= a))) := by simp [Yb, QH]
@[go_sem] theorem Zjg {a b k'} (h : 0 <= b) : Yb P .shl t (.p (.int k a)) (.p (.int k' b)) = some (.int k (k.wrap (a * 2 ^ (min b.toNat k.bits)))) := by simp [Yb, QH, show ¬ b < 0 by omega]
@[go_sem] theorem Zhf {a b k'} (h : 0 <= b) : Yb P .shr t (.p (.int k a)) (.p (.int k' b)) = some (.int k (a.fdiv (2 ^ (min b.toNat k.bits)))) := by simp [Yb, QH, show ¬ b < 0 by omega]
@[go_sem] theorem ZtO {op a b} : Yb P op t (.p (.str a)) (.p (.str b)) = ZhL op a b := Eq.trans rfl rfl
@[go_sem] theorem ZuT {a b} : ZhL .eql a b = some (.bool (decide (a = b))) := Eq.trans rfl rfl
@[go_sem] theorem Zuo {a b} : ZhL .neq a b = some (.bool (decide (¬ a = b))) := by simp [ZhL]
@[go_sem] theorem ZhW {a b} (h : a.length + b.length <= 9223372036854775807) : ZhL .add a b = some (.str (a ++ b)) := by simp [ZhL, h]
def ZCf (op : BinOp) (u : Option TypeDesc) (a b : Bool) : Option PV := match op, u with
  | .eql, some .bool => some (.bool (a == b))
  | .neq, some .bool => some (.bool (!(a == b)))
  | _, _ => none
end vals
attribute [irreducible] pst mst hst bst
end Go.AM
namespace Go.AM
open Go.RowKit
section vals
variable {P : Program} {H : List Obj} {k : IntKind} {t u : TypeId}
def ZAW (g : Bool) (op : BinOp) (r : Option Bool) : Option PV := if g then none else match op with
 | .eql => r.map .bool
 | .neq => r.map fun r => .bool (!r)
 | _ => none
@[go_sem] theorem Zvm {op a b} : Yb P op t (.p (.agg a)) (.p (.agg b)) = ZAW (P.eqGuardType P.depth t) op (QK P 9 t (.agg a) (.agg b)) := Eq.trans rfl rfl
@[go_sem] theorem ZvH {b} : ZAW false .eql (some b) = some (.bool b) := Eq.trans rfl rfl
def Zju (P : Program) (d : Nat) (t : TypeId) (D : Option TypeDesc) (x y : PV) : Option Bool := match D, x, y with
  | some .bool, .bool a, .bool b => some (a == b)
  | some (.int _), .int k a, .int k' b => if k = k' then some (decide (a = b)) else none
  | some .string, .str a, .str b => some (decide (a = b))
  | some (.struct fs), .agg a, .agg b => if P.stoodInHeld t then none else Zcg (QK P d) P fs.toList a b
  | some (.array n e), .agg a, .agg b => match tsz P e with | some m => ZnG (QK P d e) P e m n 0 a b | none => none
  | _, _, _ => none
@[go_sem] theorem Zqf {d x y} : QK P (d + 1) t x y = Zju P d t (P.underlying t) x y := Eq.trans rfl rfl
@[go_sem] theorem ZqR {d a b} : Zju P d t (some .bool) (.bool a) (.bool b) = some (a == b) := Eq.trans rfl rfl
@[go_sem] theorem Zvo {d k0 a b} : Zju P d t (some (.int k0)) (.int k a) (.int k b) = some (decide (a = b)) := by simp [Zju]
theorem Qs {d fs a b} (h : P.stoodInHeld t = false) : Zju P d t (some (.struct fs)) (.agg a) (.agg b) = Zcg (QK P d) P fs.toList a b := by simp [Zju, h]
def Zkc (x y : Option Bool) : Option Bool := x.bind fun p => y.map fun q => p && q
@[go_sem] theorem ZsA {p q} : Zkc (some p) (some q) = some (p && q) := Eq.trans rfl rfl
def eqP (f : PV -> PV -> Option Bool) (x y : Option PV) : Option Bool := x.bind fun x => y.bind fun y => f x y
@[go_sem] theorem Zt6 {f x y} : eqP f (some x) (some y) = f x y := Eq.trans rfl rfl
@[go_sem] theorem Zct {f a b} : Zcg f P [] a b = some true := Eq.trans rfl rfl
@[go_sem] theorem KW {f fi r a b} : Zcg f P (fi :: r) a b = if fi.name = "_" then Zcg f P r a b else Zkc (eqP (f fi.type) (apart P fi.type a fi.offset) (apart P fi.type b fi.offset)) (Zcg f P r a b) := by
 simp only [Zcg]
 split
 ·rfl
 ·cases apart P fi.type a fi.offset <;> cases apart P fi.type b fi.offset <;> simp [eqP, Zkc]
  rename_i x y
  cases f fi.type x y <;> cases Zcg f P r a b <;> rfl
def Zzv (g : Option Bool) (s : Option Nat) (cs : List PV) (off : Nat) : Option PV := match g, s with
 | some true, some n => if off + n <= cs.length then some (.agg ((cs.drop off).take n)) else none
 | some false, _ => cs[off]?
 | _, _ => none
@[go_sem] theorem Zup {cs off} : apart P t cs off = Zzv (XS P t) (tsz P t) cs off := Eq.trans rfl rfl
@[go_sem] theorem Zub {s cs off} : Zzv (some false) s cs off = cs[off]? := Eq.trans rfl rfl
def Zcx (g : Option Bool) (s : Option Nat) (H : List Obj) (x : V) : Option V := match g, s with
 | some true, some n => (Y3 H x n).map mkA
 | some false, _ => match Y3 H x 1 with
  | some (c :: _) => some c
  | _ => none
 | _, _ => none
def hdO (x : Option (List V)) : Option V := match x with | some (c :: _) => some c | _ => none
@[go_sem] theorem ZvF {c l} : hdO (some (c :: l)) = some c := Eq.trans rfl rfl
@[go_sem] theorem Zvx {x} : Ua P H t x = Zcx (XS P t) (tsz P t) H x := Eq.trans rfl rfl
@[go_sem] theorem Znr {s x} : Zcx (some false) s H x = hdO (Y3 H x 1) := by simp only [Zcx, hdO]
@[go_sem] theorem Znk {n x} : Zcx (some true) (some n) H x = (Y3 H x n).map mkA := Eq.trans rfl rfl
@[go_sem] theorem Zsx {x j n} : Y3 H (.lp x j) n = if j + n <= x.cells.length then some (((x.cells.drop j).take n).map .p) else none := Eq.trans rfl rfl
def Zkj (ob : Obj) (off n : Nat) : Option (List V) := match ob with | .cells cs => if off + n <= cs.length then some ((cs.drop off).take n) else none | _ => none
@[go_sem] theorem ZmR {o off n} : Y3 H (.ptr o off) n = Zkj (oat H o) off n := Eq.trans rfl rfl
@[go_sem] theorem Zj7 {cs off n} : Zkj (.cells cs) off n = if off + n <= cs.length then some ((cs.drop off).take n) else none := Eq.trans rfl rfl
def ZjB (ob : Obj) (i j tot n : Nat) : Option (List V) := match ob with
 | .elems _ xs => if xs.length = tot /\ i < xs.length /\ j + n <= (elt xs i).cells.length then some ((((elt xs i).cells.drop j).take n).map .p) else none
 | _ => none
@[go_sem] theorem Zrq {o i j tot n} : Y3 H (.ep o i j tot) n = ZjB (oat H o) i j tot n := Eq.trans rfl rfl
@[go_sem] theorem ZjD {S xs i j tot n} : ZjB (.elems S xs) i j tot n = if xs.length = tot /\ i < xs.length /\ j + n <= (elt xs i).cells.length then some ((((elt xs i).cells.drop j).take n).map .p) else none := Eq.trans rfl rfl
@[go_sem] theorem ZsV {cs} : (PV.agg cs).cells = cs := Eq.trans rfl rfl
@[go_sem] theorem ZnZ {n} : (PV.int k n).cells = [.int k n] := Eq.trans rfl rfl
@[go_sem] theorem Zm6 {b} : (PV.bool b).cells = [.bool b] := Eq.trans rfl rfl
@[go_sem] theorem Zox {s} : (PV.str s).cells = [.str s] := Eq.trans rfl rfl
@[go_sem] theorem ZmZ {c xs} : (PV.list c xs).cells = [.list c xs] := Eq.trans rfl rfl
@[go_sem] theorem Zwi {n} : (PV.int k n).one = true := Eq.trans rfl rfl
@[go_sem] theorem Zvp {b} : (PV.bool b).one = true := Eq.trans rfl rfl
@[go_sem] theorem Zxr {s} : (PV.str s).one = true := Eq.trans rfl rfl
@[go_sem] theorem Zve {c xs} : (PV.list c xs).one = true := Eq.trans rfl rfl
@[go_sem] theorem Zzu {cs} : mkA cs = match QC cs with | some ps => .p (.agg ps) | none => .agg cs := Eq.trans rfl rfl
@[go_sem] theorem ZtX : QC [] = some [] := Eq.trans rfl rfl
@[go_sem] theorem Zpr {x r} : QC (.p x :: r) = (QC r).map (x :: ·) := by simp only [QC]
def JY (n : Option Nat) (a : Bool) (x : V) : Option V := match n with | some n => if a then some (JG n x) else none | none => none
@[go_sem] theorem ZpU {s f x} : VP P H s f x = JY (Z8 P s f) (YP H x) x := Eq.trans rfl rfl
@[go_sem] theorem ZjQ {n x} : JY (some n) true x = some (JG n x) := Eq.trans rfl rfl
@[go_sem] theorem Zur {n x j} : JG n (.lp x j) = .lp x (j + n) := Eq.trans rfl rfl
@[go_sem] theorem Zo0 {n o off} : JG n (.ptr o off) = .ptr o (off + n) := Eq.trans rfl rfl
@[go_sem] theorem ZvS {n o i j tot} : JG n (.ep o i j tot) = .ep o i (j + n) tot := Eq.trans rfl rfl
def Ze2 (ob : Obj) : Bool := match ob with | .cells _ => true | _ => false
@[go_sem] theorem Zhm {cs} : Ze2 (.cells cs) = true := Eq.trans rfl rfl
def Jq (ob : Obj) (tot : Nat) : Bool := match ob with | .elems _ xs => decide (xs.length = tot) | _ => false
@[go_sem] theorem ZiL {S xs tot} : Jq (.elems S xs) tot = decide (xs.length = tot) := Eq.trans rfl rfl
@[go_sem] theorem Zu6 {x j} : YP H (.lp x j) = true := Eq.trans rfl rfl
@[go_sem] theorem ZmX {o off} : YP H (.ptr o off) = Ze2 (oat H o) := Eq.trans rfl rfl
@[go_sem] theorem ZvV {o i j tot} : YP H (.ep o i j tot) = Jq (oat H o) tot := Eq.trans rfl rfl
def W2 (e : Option (Option Nat × Nat)) (H : List Obj) (x i : V) : Option V := match e, i with
 | some (none, S), .p (.int _ n) => match x with
  | .p (.list _ xs) => if 0 <= n /\ n < xs.length then (if (elt xs n.toNat).cells.length = S then some (.lp (elt xs n.toNat) 0) else none) else none
  | .sl o off len tot => match oat H o with
   | .elems S' xs => if xs.length = tot /\ S' = S then (if 0 <= n /\ n < len then some (.ep o (off + n.toNat) 0 tot) else none) else none
   | .cells _ => if S = 1 /\ off = 0 /\ len = tot /\ 0 <= n /\ n < len then some (.ptr o n.toNat) else none
   | _ => none
  | _ => none
 | some (some k, S), .p (.int _ n) => if 0 <= n /\ n < k then (if YP H x then some (JG (n.toNat * S) x) else none) else none
 | _, _ => none
@[go_sem] theorem ZrS {x i} : WO P H t x i = W2 (YF P t) H x i := Eq.trans rfl rfl
theorem KF {S c xs n} (h0 : 0 <= n) (h1 : n < (List.length xs : Int)) : W2 (some (none, S)) H (.p (.list c xs)) (.p (.int k n)) = if (elt xs n.toNat).cells.length = S then some (.lp (elt xs n.toNat) 0) else none := by
 simp only [W2]; rw [if_pos ⟨h0, h1⟩]
def nth {α : Type} [Inhabited α] (l : List α) (i : Nat) : α := l.getD i default
theorem Xi {α : Type} [Inhabited α] {f : α -> PV} {l : List α} {i : Nat} (h : i < l.length) : elt (l.map f) i = f (nth l i) := by
 simp [elt, nth, h]
theorem Ze {α : Type} [Inhabited α] {l : List α} {i : Nat} (h : i < l.length) : nth l i = l[i] := by simp [nth, h]
@[go_sem] theorem ZlW {α : Type} [Inhabited α] {f : α -> PV} {l : List α} {S c n} (h0 : 0 <= n) (h1 : n < (l.length : Int)) :
  W2 (some (none, S)) H (.p (.list c (l.map f))) (.p (.int k n)) = if (f (nth l n.toNat)).cells.length = S then some (.lp (f (nth l n.toNat)) 0) else none := by
 rw [KF h0 (by simpa using h1), Xi (by omega)]
def Zeh (ob : Obj) (S o off len tot : Nat) (n : Int) : Option V := match ob with
 | .elems S' xs => if xs.length = tot /\ S' = S then (if 0 <= n /\ n < len then some (.ep o (off + n.toNat) 0 tot) else none) else none
 | .cells _ => if S = 1 /\ off = 0 /\ len = tot /\ 0 <= n /\ n < len then some (.ptr o n.toNat) else none
 | _ => none
@[go_sem] theorem Znb {S o off len tot n} : W2 (some (none, S)) H (.sl o off len tot) (.p (.int k n)) = Zeh (oat H o) S o off len tot n := Eq.trans rfl rfl
@[go_sem] theorem Zp6 {S xs o off} {len tot : Nat} {n : Int} (h0 : 0 <= n) (h1 : n < (len : Int)) (ht : xs.length = tot) : Zeh (.elems S xs) S o off len tot n = some (.ep o (off + n.toNat) 0 tot) := by
 simp only [Zeh]; simp [ht, h0, h1]
@[go_sem] theorem Zlz {n} {m S : Nat} {x} (h0 : 0 <= n) (h1 : n < (m : Int)) : W2 (some (some m, S)) H x (.p (.int k n)) = JY (some (n.toNat * S)) (YP H x) x := by
 simp only [W2, JY]; rw [if_pos ⟨h0, h1⟩]
def Ziy (H : List Obj) (D : Option TypeDesc) (x : V) : Option PV := match D, x with
 | some (.slice _), .p (.list _ xs) => some (.int .i64 xs.length)
 | some (.slice _), .sl o _ len tot => match oat H o with
  | .elems _ xs => if xs.length = tot then some (.int .i64 len) else none
  | _ => none
 | some .string, .p (.str s) => some (.int .i64 s.length)
 | some (.array n _), _ => some (.int .i64 n)
 | _, _ => none
@[go_sem] theorem ZwF {x} : Zs3 P H t x = Ziy H (P.underlying t) x := Eq.trans rfl rfl
@[go_sem] theorem Znz {e c xs} : Ziy H (some (.slice e)) (.p (.list c xs)) = some (.int .i64 (List.length xs)) := Eq.trans rfl rfl
def Zy8 (ob : Obj) (len tot : Nat) : Option PV := match ob with | .elems _ xs => if xs.length = tot then some (.int .i64 len) else none | _ => none
@[go_sem] theorem Zud {e o off len tot} : Ziy H (some (.slice e)) (.sl o off len tot) = Zy8 (oat H o) len tot := Eq.trans rfl rfl
@[go_sem] theorem ZmV {S xs len tot} : Zy8 (.elems S xs) len tot = if xs.length = tot then some (.int .i64 len) else none := Eq.trans rfl rfl
@[go_sem] theorem Zp9 {s} : Ziy H (some .string) (.p (.str s)) = some (.int .i64 (List.length s)) := Eq.trans rfl rfl
@[go_sem] theorem ZyU {b} : aun .not (.p (.bool b)) = some (.bool (!b)) := Eq.trans rfl rfl
@[go_sem] theorem ZvZ {n} : aun .neg (.p (.int k n)) = some (.int k (k.wrap (0 - n))) := Eq.trans rfl rfl
def Zkg (D E : Option TypeDesc) (x : V) : Option PV := match D, E, x with
 | some _, some (.int k), .p (.int _ n) => some (.int k (k.wrap n))
 | some (.int _), some .string, .p (.int _ n) => if 0 <= n /\ n < 128 then some (.str [UInt8.ofNat n.toNat]) else none
 | some .string, some .string, .p (.str b) => some (.str b)
 | _, _, _ => none
@[go_sem] theorem Zu7 {s x} : ZfZ P s t x = Zkg (P.underlying s) (P.underlying t) x := Eq.trans rfl rfl
@[go_sem] theorem ZnF {D k' n} : Zkg (some D) (some (.int k)) (.p (.int k' n)) = some (.int k (k.wrap n)) := by cases D <;> rfl
def Za2 (E : Option TypeDesc) (H : List Obj) (x : V) : Option PV := match E, x with
  | some (.int .u8), .p (.list _ xs) => (Xt xs).map .str
  | some (.int .u8), .sl o off len tot => match oat H o with
   | .elems _ xs => if xs.length = tot /\ off + len <= tot then (Xt ((xs.take (off + len)).drop off)).map .str else none
   | _ => none
  | _, _ => none
def ZaS (P : Program) (H : List Obj) (D E : Option TypeDesc) (x : V) : Option PV := match D, E with
 | some (.slice e), some .string => Za2 (P.underlying e) H x
 | _, _ => none
@[go_sem] theorem ZrO {s x} : Jk P H s t x = ZaS P H (P.underlying s) (P.underlying t) x := Eq.trans rfl rfl
@[go_sem] theorem ZmC {E x} : ZaS P H (some (.int k)) E x = none := Eq.trans rfl rfl
@[go_sem] theorem Zif {e x} : ZaS P H (some (.slice e)) (some .string) x = Za2 (P.underlying e) H x := Eq.trans rfl rfl
def Zj1 (ob : Obj) (off len tot : Nat) : Option PV := match ob with | .elems _ xs => if xs.length = tot /\ off + len <= tot then (Xt ((xs.take (off + len)).drop off)).map .str else none | _ => none
@[go_sem] theorem Zm5 {o off len tot} : Za2 (some (.int .u8)) H (.sl o off len tot) = Zj1 (oat H o) off len tot := Eq.trans rfl rfl
@[go_sem] theorem Zjs {S xs off len tot} : Zj1 (.elems S xs) off len tot = if xs.length = tot /\ off + len <= tot then (Xt ((xs.take (off + len)).drop off)).map .str else none := Eq.trans rfl rfl
@[go_sem] theorem Zli : Xt [] = some [] := Eq.trans rfl rfl
@[go_sem] theorem Zkn {n r} : Xt (.int .u8 n :: r) = (Xt r).map (UInt8.ofNat n.toNat :: ·) := by simp [Xt]
@[go_sem] theorem Zx7 {a b : Int} (h : 0 <= a) : a.tdiv b = a / b := Int.tdiv_eq_ediv_of_nonneg h
@[go_sem] theorem ZwT {a b : Int} (h : 0 <= a) : a.tmod b = a % b := Int.tmod_eq_emod_of_nonneg h
@[go_sem] theorem ZAT {cs} : vc H (.p (.agg cs)) = if cs.all (·.one) = true then some (cs.map .p) else none := by simp only [vc]
@[go_sem] theorem ZxQ {cs} : vc H (.agg cs) = if cs.all (V.one H) = true then some cs else none := by simp only [vc]
@[go_sem] theorem ZAF {n} : vc H (.p (.int k n)) = some [.p (.int k n)] := Eq.trans rfl rfl
@[go_sem] theorem Zxq {n} : vc H (.p (.bool n)) = some [.p (.bool n)] := Eq.trans rfl rfl
@[go_sem] theorem Zy9 {n} : vc H (.p (.str n)) = some [.p (.str n)] := Eq.trans rfl rfl
@[go_sem] theorem ZyK {c xs} : vc H (.p (.list c xs)) = some [.p (.list c xs)] := Eq.trans rfl rfl
@[go_sem] theorem ZA6 {o off len tot} : vc H (.sl o off len tot) = if Jq (oat H o) tot = true then some [.sl o off len tot] else none := Eq.trans rfl rfl
@[go_sem] theorem ZzZ {x} : V.one H (.p x) = x.one := Eq.trans rfl rfl
@[go_sem] theorem Zx4 {o off len tot} : V.one H (.sl o off len tot) = Jq (oat H o) tot := Eq.trans rfl rfl
@[go_sem] theorem ZA4 {o} : vc H (.mp o) = if ZmI (oat H o) = true then some [.mp o] else none := Eq.trans rfl rfl
@[go_sem] theorem ZqA {es} : ZmI (.map es) = true := Eq.trans rfl rfl
@[go_sem] theorem Zx5 {α : Type} {n} {cs : List α} : spl ([] : List α) n cs = [] := by cases cs <;> cases n <;> simp [spl]
@[go_sem] theorem Zul {α : Type} {x c : α} {l cs} : spl (x :: l) 0 (c :: cs) = c :: spl l 0 cs := by simp [spl]
@[go_sem] theorem Zst {α : Type} {x : α} {l} : spl (x :: l) 0 [] = x :: l := by simp [spl]
@[go_sem] theorem Zva {α : Type} {x : α} {l cs n} : spl (x :: l) (n + 1) cs = x :: spl l n cs := by simp [spl]
def ZjL (H : List Obj) (o : Nat) (ob : Obj) (off n : Nat) (cs : List V) : Option (List Obj) := match ob with
 | .cells old => if off + n <= old.length then some (ost H o (.cells (spl old off cs))) else none
 | _ => none
@[go_sem] theorem ZnD {n o off cs} : Ur H n (.ptr o off) cs = if cs.length = n then ZjL H o (oat H o) off n cs else none := Eq.trans rfl rfl
@[go_sem] theorem Zkb {o old off n cs} : ZjL H o (.cells old) off n cs = if off + n <= old.length then some (ost H o (.cells (spl old off cs))) else none := Eq.trans rfl rfl
def ZgQ (H : List Obj) (o : Nat) (ob : Obj) (i j tot n : Nat) (ps : Option (List PV)) : Option (List Obj) := match ob, ps with
 | .elems S xs, some ps => if xs.length = tot /\ i < xs.length /\ j + n <= (elt xs i).cells.length /\ ps.all (·.one) = true /\ (elt xs i).cells.all (·.one) = true then
   some (ost H o (.elems S (xs.set i (mkE (elt xs i) (spl (elt xs i).cells j ps))))) else none
 | _, _ => none
@[go_sem] theorem Zsd {n o i j tot cs} : Ur H n (.ep o i j tot) cs = if cs.length = n then ZgQ H o (oat H o) i j tot n (QC cs) else none := Eq.trans rfl rfl
@[go_sem] theorem Znh {α : Type} [Inhabited α] {f : α -> PV} {l : List α} {o S i j tot n ps} (ht : l.length = tot) (hi : i < l.length) : ZgQ H o (.elems S (l.map f)) i j tot n (some ps) =
  if j + n <= (f (nth l i)).cells.length /\ ps.all (·.one) = true /\ (f (nth l i)).cells.all (·.one) = true then
   some (ost H o (.elems S ((l.map f).set i (mkE (f (nth l i)) (spl (f (nth l i)).cells j ps))))) else none := by
 simp only [ZgQ, Xi hi]
 have h1 : (l.map f).length = tot := by simpa using ht
 have h2 : i < (l.map f).length := by simpa using hi
 simp only [h1, h2, true_and];subst ht;simp [hi]
@[go_sem] theorem ZwB {a cs} : mkE (.agg a) cs = .agg cs := Eq.trans rfl rfl
@[go_sem] theorem ZyW {n c l} : mkE (.int k n) (c :: l) = c := Eq.trans rfl rfl
@[go_sem] theorem ZtT {n c l} : mkE (.bool n) (c :: l) = c := Eq.trans rfl rfl
@[go_sem] theorem ZrP {l} : Zah P H t l = match ZU P t, tpl P t with
 | some zs, some pl => (Ql H pl (zs.map .p) l).map mkA
 | _, _ => none := Eq.trans rfl rfl
@[go_sem] theorem ZsW {pl cs} : Ql H pl cs [] = some cs := by simp [Ql]
def Zkm (H : List Obj) (pl : Nat -> Option (Nat × Nat)) (cs : List V) (r : List (Nat × V)) (q : Option (Nat × Nat)) (vs : Option (List V)) : Option (List V) := match q, vs with
 | some (off, sz), some vs => if vs.length = sz /\ off + sz <= cs.length then Ql H pl (spl cs off vs) r else none
 | _, _ => none
@[go_sem] theorem Zm0 {pl cs i v r} : Ql H pl cs ((i, v) :: r) = Zkm H pl cs r (pl i) (vc H v) := Eq.trans rfl rfl
@[go_sem] theorem ZlF {pl cs off sz vs r} : Zkm H pl cs r (some (off, sz)) (some vs) = if vs.length = sz /\ off + sz <= cs.length then Ql H pl (spl cs off vs) r else none := Eq.trans rfl rfl
@[go_sem] theorem Zzr {l i} : plL l i = l[i]? := Eq.trans rfl rfl
@[go_sem] theorem ZAs {n i} : plA n i = some (i * n, n) := Eq.trans rfl rfl
end vals
end Go.AM
namespace Go.AM
open Go.RowKit
section
variable {P : Program} {H : List Obj} {k : IntKind} {t u : TypeId} {fr : List V}
def Zlt (S : Option Nat) (H : List Obj) (n : Nat) (l : List (Nat × V)) : Option (V × List Obj) := match S with
 | some S => if n = l.length /\ n * S <= 16777216 /\ 0 < S then (QE H S 0 l).map fun xs => (.sl H.length 0 n n, H ++ [.elems S xs]) else none
 | none => none
@[go_sem] theorem ZuA {n l} : WQ P (.buildSlice t n (List.toArray l)) fr H = Zlt (U7 P t) H n (l.map fun x => (x.1, ev fr x.2)) := by
 simp only [WQ, U7, Zlt]
 cases P.underlying t with
 | none => rfl
 | some D =>
  cases D <;> try rfl
  rename_i e;simp only []
  cases (P.info? e).bind (·.zero) with
  | none => rfl
  | some z =>
   simp only [Zk8]
   cases YF P t with
   | none => rfl
   | some q => obtain ⟨a, b⟩ := q; cases a <;> rfl
@[go_sem] theorem Znq {S n l} : Zlt (some S) H n l = if n = l.length /\ n * S <= 16777216 /\ 0 < S then (QE H S 0 l).map fun xs => (.sl H.length 0 n n, H ++ [.elems S xs]) else none := Eq.trans rfl rfl
@[go_sem] theorem ZtR {S n} : QE H S n [] = some [] := by simp [QE]
@[go_sem] theorem Zol {S n i x r} : QE H S n ((i, .p x) :: r) = if i = n then if x.cells.length = S /\ x.cells.all (·.one) = true then (QE H S (n + 1) r).map (x :: ·) else none else none := by simp only [QE, pvo]
@[go_sem] theorem ZyO {S n i f r} : QE H S n ((i, .fn (.func f) [] []) :: r) = if i = n then if 1 = S then (QE H S (n + 1) r).map (.fn f :: ·) else none else none := by simp [QE, pvo, PV.cells, PV.one]
def Zcu (P : Program) (t : TypeId) : Option (Nat × Nat) := match P.underlying t with
 | some (.slice e) => match tsz P e, Qg P e, (P.info? e).map (·.bytes) with
  | some S, some z, some by' => if 0 < S /\ z.cells.length = S /\ z.cells.all (·.one) = true /\ by' ≠ 0 then some (S, by') else none
  | _, _, _ => none
 | _ => none
theorem ZbS {S by'} (h : Zcu P t = some (S, by')) : ∃ e z, P.underlying t = some (.slice e) /\ tsz P e = some S /\ Qg P e = some z /\ (P.info? e).map (·.bytes) = some by' /\ 0 < S /\ z.cells.length = S /\ z.cells.all (·.one) = true /\ by' ≠ 0 := by
 unfold Zcu at h
 split at h
 ·rename_i e hu
  split at h
  ·rename_i S' z b h1 h2 h3
   split at h
   ·rename_i hc;simp at h; obtain ⟨rfl, rfl⟩ := h;exact ⟨e, z, hu, h1, h2, h3, hc⟩
   ·cases h
  ·cases h
 ·cases h
def Wa (D : Option TypeDesc) (H : List Obj) (y : V) : Option (List PV) := match D, y with
 | some (.slice _), .p (.list _ ys) => some ys
 | some (.slice _), .sl o off len tot => match oat H o with
  | .elems _ xs => if xs.length = tot /\ off + len <= tot then some ((xs.take (off + len)).drop off) else none
  | _ => none
 | some .string, .p (.str s) => some (s.map fun b => .int .u8 b.toNat)
 | _, _ => none
def Zp8 (ob : Obj) (off len tot : Nat) : Option (List PV) := match ob with | .elems _ xs => if xs.length = tot /\ off + len <= tot then some ((xs.take (off + len)).drop off) else none | _ => none
@[go_sem] theorem ZnP {e c ys} : Wa (some (.slice e)) H (.p (.list c ys)) = some ys := Eq.trans rfl rfl
@[go_sem] theorem Zu4 {e o off len tot} : Wa (some (.slice e)) H (.sl o off len tot) = Zp8 (oat H o) off len tot := Eq.trans rfl rfl
theorem Zcm {S xs n} (h : List.length xs = n) : Zp8 (.elems S xs) 0 n n = some xs := by subst h; simp [Zp8]
def ZmO (H : List Obj) (F : Option (Nat × Nat)) (ys : Option (List PV)) : Option (V × List Obj) := match F, ys with
 | some (S, by'), some ys => if okE S ys = true /\ ys.length * by' <= 140737488355328 /\ ys.length <= 140737488355328 then some (.sl H.length 0 ys.length ys.length, H ++ [.elems S ys]) else none
 | _, _ => none
def JO (H : List Obj) (F : Option (Nat × Nat)) (ob : Obj) (o n : Nat) (ys : Option (List PV)) : Option (V × List Obj) := match F, ob, ys with
 | some (S, by'), .elems S' xs, some ys => if S' = S /\ xs.length = n /\ okE S ys = true /\ (n + ys.length) * by' <= 140737488355328 /\ n + ys.length <= 140737488355328 then
   some (.sl o 0 (n + ys.length) (n + ys.length), ost H o (.elems S (xs ++ ys))) else none
 | _, _, _ => none
theorem ZeA {z x y ys e S by'} (h1 : P.underlying t = some (.slice e)) (h2 : tsz P e = some S) (h3 : Qg P e = some z) (h4 : (P.info? e).map (·.bytes) = some by') (h5 : Zjv P H u y = some ys) (h6 : 0 < S /\ z.cells.length = S /\ z.cells.all (·.one) = true /\ by' ≠ 0) :
  QB P H t u x y = if okE S ys = true then (match x with
    | .p (.list cl xs) => if cl = true /\ okE S xs = true /\ (xs = [] \/ 0 < ys.length) /\ (xs.length + ys.length) * by' <= 140737488355328 /\ xs.length + ys.length <= 140737488355328 then
      some (.sl H.length 0 (xs.length + ys.length) (xs.length + ys.length), H ++ [.elems S (xs ++ ys)]) else none
    | .sl o off len tot => match oat H o with
     | .elems S' xs => if S' = S /\ off = 0 /\ len = tot /\ xs.length = tot /\ (tot + ys.length) * by' <= 140737488355328 /\ tot + ys.length <= 140737488355328 then
       some (.sl o 0 (tot + ys.length) (tot + ys.length), ost H o (.elems S (xs ++ ys))) else none
     | _ => none
    | _ => none) else none := by
 simp only [QB, h1, h2, h3, h4, h5]
 by_cases hc : okE S ys = true
 ·rw [if_pos hc, if_pos ⟨h6.1, h6.2.1, h6.2.2.1, h6.2.2.2, hc⟩]
  cases x with
  | p x => cases x <;> rfl
  | _ => rfl
 ·rw [if_neg hc, if_neg (fun h => hc h.2.2.2.2)]
theorem ZcN {y F} (hF : Zcu P t = some F) : QB P H t u (.p (.list true [])) y = ZmO H (some F) (Wa (P.underlying u) H y) := by
 obtain ⟨S, by'⟩ := F;obtain ⟨e, z, h1, h2, h3, h4, h6⟩ := ZbS hF;have e1 : Wa (P.underlying u) H y = Zjv P H u y := Eq.trans rfl rfl;rw [e1]
 cases h5 : Zjv P H u y with
 | none => simp [QB, h1, h2, h3, h4, h5, ZmO]
 | some ys =>
  rw [ZeA h1 h2 h3 h4 h5 h6];simp only [ZmO, okE]
  by_cases hc : ys.all (ZoF S) = true
  ·simp [hc]
  ·simp [hc]
theorem X7 {y F o n} (hF : Zcu P t = some F) : QB P H t u (.sl o 0 n n) y = JO H (some F) (oat H o) o n (Wa (P.underlying u) H y) := by
 obtain ⟨S, by'⟩ := F;obtain ⟨e, z, h1, h2, h3, h4, h6⟩ := ZbS hF;have e1 : Wa (P.underlying u) H y = Zjv P H u y := Eq.trans rfl rfl;rw [e1]
 cases h5 : Zjv P H u y with
 | none =>
  simp only [QB, h1, h2, h3, h4, h5, JO]
  cases oat H o <;> rfl
 | some ys =>
  rw [ZeA h1 h2 h3 h4 h5 h6];simp only [JO]
  cases oat H o with
  | elems S' xs =>
   by_cases hc : okE S ys = true
   ·simp [hc]
   ·simp [hc]
  | cells cs => simp
  | map es => simp
  | bld T E r bs => simp
  | dead => simp
@[go_sem] theorem Zsh {S b ys} : ZmO H (some (S, b)) (some ys) = if okE S ys = true /\ ys.length * b <= 140737488355328 /\ ys.length <= 140737488355328 then some (.sl H.length 0 ys.length ys.length, H ++ [.elems S ys]) else none := Eq.trans rfl rfl
theorem K8 {S b xs ys o n} (hn : xs.length = n) (hb : (n + ys.length) * b <= 140737488355328) (hb2 : n + ys.length <= 140737488355328) : JO H (some (S, b)) (.elems S xs) o n (some ys) = if okE S ys = true then some (.sl o 0 (n + ys.length) (n + ys.length), ost H o (.elems S (xs ++ ys))) else none := by
 simp only [JO]
 by_cases hc : okE S ys = true
 ·rw [if_pos ⟨trivial, hn, hc, hb, hb2⟩, if_pos hc]
 ·rw [if_neg (fun h => hc h.2.2.1), if_neg hc]
@[go_sem] theorem Zvy {α : Type} {S} {f : α -> PV} {l : List α} : Zp8 (.elems S (l.map f)) 0 l.length l.length = some (l.map f) := Zcm (by simp)
@[go_sem] theorem ZuB {S x} : Zp8 (.elems S [x]) 0 1 1 = some [x] := Zcm (by simp)
@[go_sem] theorem Zoe {α : Type} {S b o x} {f : α -> PV} {l : List α} (hb : (l.length + 1) * b <= 140737488355328) (hb2 : l.length + 1 <= 140737488355328) : JO H (some (S, b)) (.elems S (l.map f)) o l.length (some [x]) = if okE S [x] = true then some (.sl o 0 (l.length + 1) (l.length + 1), ost H o (.elems S (l.map f ++ [x]))) else none :=
 K8 (by simp) (by simpa using hb) (by simpa using hb2)
@[go_sem] theorem ZqT {α β : Type} {S b o} {f : α -> PV} {g : β -> PV} {l : List α} {m : List β} (hb : (l.length + m.length) * b <= 140737488355328) (hb2 : l.length + m.length <= 140737488355328) : JO H (some (S, b)) (.elems S (l.map f)) o l.length (some (m.map g)) = if okE S (m.map g) = true then some (.sl o 0 (l.length + m.length) (l.length + m.length), ost H o (.elems S (l.map f ++ m.map g))) else none := by
 have := @K8 H S b (l.map f) (m.map g) o l.length (by simp) (by simpa using hb) (by simpa using hb2);simpa using this
@[go_sem] theorem Zwt {S} : okE S [] = true := Eq.trans rfl rfl
@[go_sem] theorem ZuW {S x l} : okE S (x :: l) = ((x.cells.length == S) && x.cells.all (·.one) && okE S l) := by simp [okE, ZoF]
theorem UY {α : Type} {S} {f : α -> PV} {l : List α} (h : ∀ x, ZoF S (f x) = true) : okE S (l.map f) = true := by simp [okE]; intro x _; exact h x
def Zib (P : Program) (t : TypeId) : Option (Nat × Nat × PV) := match P.underlying t with
  | some (.slice e) => match tsz P e, Qg P e, (P.info? e).map (·.bytes) with
   | some S, some z, some by' => if z.cells.all (·.one) = true /\ z.cells.length = S /\ 0 < S then some (S, by', z) else none
   | _, _, _ => none
  | _ => none
end
def Yn : Nat -> List Nat -> List V -> List V
 | _, _, [] => []
 | i, [], _ :: l => .junk :: Yn (i + 1) [] l
 | i, k :: ks, x :: l => if i = k then x :: Yn (i + 1) ks l else .junk :: Yn (i + 1) (k :: ks) l
def XH : List (Nat × V) -> List V -> List V
 | [], fr => fr
 | (i, v) :: r, fr => XH r (pt fr i v)
@[go_sem] theorem ZqP {i ks} : Yn i ks [] = [] := by cases ks <;> simp [Yn]
@[go_sem] theorem Zng {i x l} : Yn i [] (x :: l) = .junk :: Yn (i + 1) [] l := by simp [Yn]
@[go_sem] theorem Znv {i k ks x l} : Yn i (k :: ks) (x :: l) = if i = k then x :: Yn (i + 1) ks l else .junk :: Yn (i + 1) (k :: ks) l := by simp [Yn]
@[go_sem] theorem ZBf : ((0 : Nat) : Int) = 0 := Eq.trans rfl rfl
@[go_sem] theorem ZBR {n : Nat} : ((n + 1 : Nat) : Int) = (n : Int) + 1 := Eq.trans rfl rfl
@[go_sem] theorem ZzY {n : Nat} : ((n : Int)).toNat = n := Eq.trans rfl rfl
@[go_sem] theorem ZuP {fr} : XH [] fr = fr := by simp [XH]
@[go_sem] theorem ZrF {i v r fr} : XH ((i, v) :: r) fr = XH r (pt fr i v) := by simp [XH]
@[go_sem] theorem ZxZ {p q : Prop} [Decidable p] [Decidable q] : (decide p && decide q) = decide (p /\ q) := by simp
@[go_sem] theorem ZpC {p q : Prop} [Decidable p] [Decidable q] : (decide p || decide q) = decide (p \/ q) := by simp
theorem Zf {P c fr H Q} {I : Type} (ks : List Nat) (sets : I -> List (Nat × V)) (hs : I -> List Obj) (R : I -> Prop) (μ : I -> Nat) (i0 : I) (hR : R i0) (h0 : Weak H.length fr H (XH (sets i0) (Yn 0 ks fr)) (hs i0))
  (round : ∀ i, R i -> awp [] P c (XH (sets i) (Yn 0 ks fr)) (hs i) (VZ (fun fr' H' => ∃ i', R i' /\ μ i' < μ i /\ Weak H.length fr' H' (XH (sets i') (Yn 0 ks fr)) (hs i')) Q)) : AWP P (.loop c) fr H Q :=
 Zcc R (fun i => XH (sets i) (Yn 0 ks fr)) hs μ i0 hR h0 fun i hi => Zd [] _ _ _ _ (round i hi)
theorem ZY {P c fr H Q} (cuts : List Nat) {I : Type} (ks : List Nat) (sets : I -> List (Nat × V)) (hs : I -> List Obj) (R : I -> Prop) (μ : I -> Nat) (i0 : I) (hR : R i0) (h0 : Weak H.length fr H (XH (sets i0) (Yn 0 ks fr)) (hs i0))
  (round : ∀ i, R i -> awp cuts P c (XH (sets i) (Yn 0 ks fr)) (hs i) (VZ (fun fr' H' => ∃ i', R i' /\ μ i' < μ i /\ Weak H.length fr' H' (XH (sets i') (Yn 0 ks fr)) (hs i')) Q)) : AWP P (.loop c) fr H Q :=
 Zcc R (fun i => XH (sets i) (Yn 0 ks fr)) hs μ i0 hR h0 fun i hi => Zd cuts _ _ _ _ (round i hi)
theorem Zq {P x y fr H Q} {I : Type} (ks : List Nat) (sets : I -> List (Nat × V)) (hs : I -> List Obj) (R : I -> Prop)
  (h : awp [] P x fr H (VZ (fun fr' H' => ∃ i, R i /\ Weak H.length fr' H' (XH (sets i) (Yn 0 ks fr)) (hs i)) Q)) (k : ∀ i, R i -> AWP P y (XH (sets i) (Yn 0 ks fr)) (hs i) Q) : AWP P (.seq x y) fr H Q :=
 fun F ι a w hr hf => by
 refine wp_seq (wp_mono (Zd [] _ _ _ _ h F ι a w hr hf) ?_);rintro e a' w' ⟨fr', H', ι', q, g, f⟩
 cases e with
 | normal =>
  obtain ⟨i, hi, hw⟩ := q;obtain ⟨ι2, r2, f2, g2⟩ := hw F ι' a' w' g.rel f;refine wp_mono (k i hi F ι2 a' w' r2 f2) ?_;rintro e2 a2 w2 ⟨fr2, H2, ι3, q2, g3, f3⟩;exact ⟨fr2, H2, ι3, q2, (g2 H ι w (Nat.le_refl _) g).trans g3, f3⟩
 | exit id => exact ⟨fr', H', ι', q, g, f⟩
 | goto l => exact ⟨fr', H', ι', q, g, f⟩
 | ret => exact ⟨fr', H', ι', q, g, f⟩
 | panic ch => exact ⟨fr', H', ι', q, g, f⟩
 | outgrown => exact ⟨fr', H', ι', q, g, f⟩
@[go_sem] theorem Zvl {H n x} : wkV H n x .junk = True := by simp [wkV]
@[go_sem] theorem ZAl {H n} {x y : PV} : wkV H n (.p x) (.p y) = (y = x) := by simp [wkV, refB, frz]
@[go_sem] theorem Zxf {H n o off len tot o' off' len' tot'} : wkV H n (.sl o off len tot) (.sl o' off' len' tot') = ((o' = o /\ off' = off /\ len' = len /\ tot' = tot) /\ o < n) := by simp [wkV, refB]
@[go_sem] theorem Zuh {H n o off o' off'} : wkV H n (.ptr o off) (.ptr o' off') = ((o' = o /\ off' = off) /\ o < n) := by simp [wkV, refB]
@[go_sem] theorem Zyc {H n} : wkF H n [] [] = True := by simp [wkF]
@[go_sem] theorem Zvw {H n x l x' l'} : wkF H n (x :: l) (x' :: l') = (wkV H n x x' /\ wkF H n l l') := by simp [wkF]
@[go_sem] theorem ZwC {H n l} : wkH H n l [] = True := by simp [wkH]
@[go_sem] theorem Zvz {H n x l x' l'} : wkH H n (x :: l) (x' :: l') = (wkO H n x x' /\ wkH H n l l') := by simp [wkH]
@[go_sem] theorem Zo6 {H n cs cs'} : wkO H n (.cells cs) (.cells cs') = wkF H n cs cs' := by simp [wkO]
@[go_sem] theorem Zor {H n S S' xs xs'} : wkO H n (.elems S xs) (.elems S' xs') = (S = S' /\ xs = xs') := by simp [wkO]
@[go_sem] theorem Zyw {H n es es2} : wkO H n (.map es) (.map es2) = (es = es2) := by simp [wkO]
@[go_sem] theorem ZAJ {H n o o2} : wkV H n (.mp o) (.mp o2) = (o2 = o /\ o < n) := by simp [wkV, refB, frz]
@[go_sem] theorem ZuX {H n} : wkO H n .dead .dead = True := by simp [wkO]
theorem Weak.mk {n0 fr H fr' H'} (h : n0 <= H'.length /\ H'.length <= H.length /\ wkF H H'.length fr fr' /\ wkH H H'.length H H') : Weak n0 fr H fr' H' := Weak.of h.1 h.2.2.1 h.2.2.2 h.2.1
theorem wk {n0 fr H fr' H'} (h : n0 <= H'.length /\ H'.length <= H.length /\ wkF H H'.length fr fr' /\ wkH H H'.length H H' := by simp (disch := omega) only [go_sem, seval]) : Weak n0 fr H fr' H' := Weak.mk h
theorem we {n0 x H' a b} (h : n0 <= List.length b /\ List.length b <= H'.length /\ wkF H' (List.length b) [x] [a] /\ wkH H' (List.length b) H' b := by simp (disch := omega) only [go_sem, seval]) : ∃ y H'', Weak n0 [x] H' [y] H'' /\ y = a /\ H'' = b := ⟨_, _, Weak.mk h, rfl, rfl⟩
attribute [go_sem] List.length_cons List.length_nil List.cons_append List.nil_append List.append_nil List.map_cons List.map_nil List.drop_zero List.drop_succ_cons List.drop_nil List.take_succ_cons List.take_zero List.take_nil List.all_cons List.all_nil
 Nat.zero_add Nat.add_zero and_self true_and and_true Option.map_some Option.bind_some List.getElem?_cons_zero List.getElem?_cons_succ Bool.and_true Bool.true_and Bool.and_self List.length_map if_true if_false decide_true decide_false IntWalk.i64_in IntWalk.i32_in IntWalk.u8_in IntWalk.u64_in IntWalk.u32_in
 beq_self_eq_true List.replicate_succ List.replicate_zero Bool.or_true Bool.true_or Bool.or_false Bool.false_or Bool.not_true Bool.not_false
end Go.AM
namespace Go.AM
open Go.RowKit
theorem RP.weaker {X X' : Nat -> Prop} {w x v} (h : RP X w x v) (hx : ∀ b, X' b -> X b) : RP X' w x v := h.ext (w' := w) fun _ hb hs => ⟨fun h => hb (hx _ h), hs, rfl⟩
theorem Good.forget {F w H' ι' w'} (he : Env F [] w) (hf : ∀ b, F b -> b < w.heap.size) (g : Good F [] [] w H' ι' w') : Good F [] [] w [] [] w' :=
 .up he ⟨⟨rfl, fun b hb => by have := hf b hb; have := g.size; omega, fun i j b hi => by simp at hi, fun i b hi => by simp at hi, fun o cs ho => by simp at ho, fun o S xs ho => by simp at ho, fun o es ho => by simp at ho, fun o T E r bs ho => by simp at ho⟩,
  g.os, g.tape, g.output, fun b c t h => (g.shape b c t h).imp (fun h => absurd h.1 (by simp)) id, g.size, g.keep, fun _ _ h => h, fun o ob ho => by simp at ho⟩
theorem ACalls.pure {P g args} {y : PV} (h : ACalls P g args [] fun x _ => x = .p y) : ACalls P g args [] fun x H' => x = .p y /\ H' = [] := by
 refine ⟨h.1, fun F ι w vs hr hv => ?_⟩;have hι : ι = [] := List.eq_nil_of_length_eq_zero hr.len;subst hι;refine (h.2 F [] w vs hr hv).mono ?_;rintro e w' ⟨x, H', ι', v, rfl, rfl, gd, rv⟩
 cases rv with | p _ _ rp =>
 exact ⟨_, [], [], v, rfl, ⟨rfl, rfl⟩, gd.forget hr.env hr.fin, .p _ _ (rp.weaker fun b hb => .inl (by rcases hb with hb | hb; exact hb; simp at hb))⟩
theorem QY {F : Nat -> Prop} {w w' : World} {H' : List Obj} {ι' : List (Option Nat)} {v : Value} {o S n : Nat} {xs : List PV} (hF : ∀ b, F b -> b < w.heap.size) (hn : xs.length = n) (ho : oat H' o = .elems S xs)
  (gd : Good F [] [] w H' ι' w') (rv : RV F H' ι' w' (.sl o 0 n n) v) : ∃ ι2, Good F [] [] w [.elems S xs] ι2 w' /\ RV F [.elems S xs] ι2 w' (.sl 0 0 n n) v := by
 have hH := ZO ho (by simp);have hlt := (List.getElem?_eq_some_iff.1 hH).1
 have hlt' : o < ι'.length := by rw [gd.rel.len]; exact hlt
 have hι' : ι'[o]? = some (ι'[o]) := by simp [hlt']
 have hget : ∀ {i : Nat} {q : Option Nat}, [ι'[o]][i]? = some q -> i = 0 /\ ι'[o]? = some q := fun {i q} h => by
  cases i with
  | zero => simp at h; subst h; exact ⟨rfl, hι'⟩
  | succ i => simp at h
 have hown : ∀ b, Own F [ι'[o]] b -> Own F ι' b := fun b hb => by
  rcases hb with hb | hb
  ·exact .inl hb
  ·simp at hb; right; rw [hb]; simp
 refine ⟨[ι'[o]], ⟨⟨⟨rfl, fun b hb => ?_, fun i j b hi hj => ?_, fun i b hi => ?_, fun o' cs ho' => ?_, fun o' S' xs' ho' => ?_, fun o' es ho' => by cases o' <;> simp at ho', fun o' T E r bs ho' => by cases o' <;> simp at ho'⟩, gd.rel.env.le hown⟩, gd.os, gd.tape, gd.output, fun b c t h => (gd.shape b c t h).imp (fun h => absurd h.1 (by simp)) id, gd.size, gd.keep, fun b hb _ h => ?_, fun o ob ho => by simp at ho⟩, ?_⟩
 ·have := hF b hb; have := gd.size; omega
 ·rw [(hget hi).1, (hget hj).1]
 ·exact gd.rel.avo o b (hget hi).2
 ·cases o' with
  | zero => simp at ho'
  | succ i => simp at ho'
 ·cases o' with
  | zero =>
   simp at ho'; obtain ⟨rfl, rfl⟩ := ho';rcases gd.rel.elm o _ _ hH with ⟨e1, e2⟩ | ⟨b, c, t, cap, e1, e2, e3, e4, e5, e6, e7⟩
   ·exact .inl ⟨by rw [hι'] at e1; simpa using e1, e2⟩
   ·exact .inr ⟨b, c, t, cap, by rw [hι'] at e1; simpa using e1, e2, e3, e4, e5, e6, fun i x j y hi hj => (e7 i x j y hi hj).weaker hown⟩
  | succ i => simp at ho'
 ·simp at h;exact gd.own b hb (by simp) (by rw [h]; simp)
 ·cases rv with
  | slNil _ S2 a h1 h2 =>
   rw [hH] at h2; simp at h2; obtain ⟨rfl, rfl⟩ := h2;exact .slNil 0 S a (by rw [hι'] at h1; simpa using h1) rfl
  | sl _ _ _ _ b S2 cap t xs2 c h1 h2 ht hw hcap hl hlen hm =>
   rw [hH] at h2; simp at h2; obtain ⟨rfl, rfl⟩ := h2;exact .sl 0 0 n n b S cap t xs c (by rw [hι'] at h1; simpa using h1) rfl hn hw hcap hl hlen hm
  | slD _ _ _ _ _ h1 => rw [hH] at h1; cases h1
  | slS _ _ _ _ _ S2 xs2 h1 hne => rw [hH] at h1; simp at h1; obtain ⟨_, rfl⟩ := h1; omega
  | slC _ _ _ _ _ _ hd => rw [hH] at hd; cases hd
theorem ACalls.fresh {P g args} {S n : Nat} {xs : List PV} (hn : xs.length = n) (h : ACalls P g args [] fun x H' => ∃ o, x = .sl o 0 n n /\ oat H' o = .elems S xs) : ACalls P g args [] fun x H' => x = .sl 0 0 n n /\ H' = [.elems S xs] := by
 refine ⟨h.1, fun F ι w vs hr hv => ?_⟩;have hι : ι = [] := List.eq_nil_of_length_eq_zero hr.len;subst hι;refine (h.2 F [] w vs hr hv).mono ?_;rintro e w' ⟨x, H', ι', v, rfl, ⟨o, rfl, ho⟩, gd, rv⟩;obtain ⟨ι2, g2, r2⟩ := QY hr.fin hn ho gd rv;exact ⟨_, _, ι2, v, rfl, ⟨rfl, rfl⟩, g2, r2⟩
theorem ACalls.freshE {P g args} {α : Type} {S : Nat} {f : α -> PV} {R : List α -> Prop} (h : ACalls P g args [] fun x H' => ∃ l : List α, R l /\ ∃ o, x = .sl o 0 l.length l.length /\ oat H' o = .elems S (l.map f)) :
  ACalls P g args [] fun x H' => ∃ l : List α, R l /\ x = .sl 0 0 l.length l.length /\ H' = [.elems S (l.map f)] := by
 refine ⟨h.1, fun F ι w vs hr hv => ?_⟩;have hι : ι = [] := List.eq_nil_of_length_eq_zero hr.len;subst hι;refine (h.2 F [] w vs hr hv).mono ?_;rintro e w' ⟨x, H', ι', v, rfl, ⟨l, hl, o, rfl, ho⟩, gd, rv⟩;obtain ⟨ι2, g2, r2⟩ := QY hr.fin (by simp) ho gd rv;exact ⟨_, _, ι2, v, rfl, ⟨l, hl, rfl, rfl⟩, g2, r2⟩
theorem ACalls.frozen {P g args} {S n : Nat} {xs : List PV} (hn : xs.length = n) (h : ACalls P g args [] fun x H' => x = .sl 0 0 n n /\ H' = [.elems S xs]) : ACalls P g args [] fun x H' => x = .p (.list false xs) /\ H' = [] := by
 refine ⟨h.1, fun F ι w vs hr hv => ?_⟩;have hι : ι = [] := List.eq_nil_of_length_eq_zero hr.len;subst hι;refine (h.2 F [] w vs hr hv).mono ?_;rintro e w' ⟨x, H', ι', v, rfl, ⟨rfl, rfl⟩, gd, rv⟩;have hk : Keeps (Own F ι') w' (Own F []) w' := fun b hb hs => ⟨fun h => hb (.inl (by rcases h with h | h; exact h; simp at h)), hs, rfl⟩
 have := Jd (S := S) (xs := xs) (off := 0) (len := n) (tot := n) (Own F []) (fun b hb h => by
  rcases h with h | h
  ·exact (gd.rel.avo 0 b hb).1 h
  ·simp at h) hk gd.rel rfl hn (by omega) rv
 rw [Nat.zero_add, List.drop_zero, List.take_of_length_le (by omega)] at this;exact ⟨_, [], [], v, rfl, ⟨rfl, rfl⟩, gd.forget hr.env hr.fin, .p _ _ this⟩
theorem ACalls.frozenE {P g args} {α : Type} {S : Nat} {f : α -> PV} {R : List α -> Prop} (h : ACalls P g args [] fun x H' => ∃ l : List α, R l /\ x = .sl 0 0 l.length l.length /\ H' = [.elems S (l.map f)]) :
  ACalls P g args [] fun x H' => ∃ l : List α, R l /\ x = .p (.list false (l.map f)) /\ H' = [] := by
 refine ⟨h.1, fun F ι w vs hr hv => ?_⟩;have hι : ι = [] := List.eq_nil_of_length_eq_zero hr.len;subst hι;refine (h.2 F [] w vs hr hv).mono ?_;rintro e w' ⟨x, H', ι', v, rfl, ⟨l, hl, rfl, rfl⟩, gd, rv⟩;have hk : Keeps (Own F ι') w' (Own F []) w' := fun b hb hs => ⟨fun h => hb (.inl (by rcases h with h | h; exact h; simp at h)), hs, rfl⟩
 have := Jd (S := S) (xs := l.map f) (off := 0) (len := l.length) (tot := l.length) (Own F []) (fun b hb h => by
  rcases h with h | h
  ·exact (gd.rel.avo 0 b hb).1 h
  ·simp at h) hk gd.rel rfl (by simp) (by omega) rv
 rw [Nat.zero_add, List.drop_zero, List.take_of_length_le (by simp)] at this;exact ⟨_, [], [], v, rfl, ⟨l, hl, rfl, rfl⟩, gd.forget hr.env hr.fin, .p _ _ this⟩
theorem ACalls.useV {P g args} {α : Type} {f : α -> PV} {R : α -> Prop} {H : List Obj} {K : V -> List Obj -> Prop} (h : ACalls P g args [] fun x H' => ∃ a : α, R a /\ x = .p (f a) /\ H' = []) (k : ∀ a, R a -> K (.p (f a)) H) (ha : refBs 0 args = true := by rfl) : ACalls P g args H K := by
 refine (h.behind ha H).mono ?_;rintro x H' ⟨y', H1, ⟨a, ra, rfl, rfl⟩, rfl, rfl⟩;simpa [shV] using k a ra
theorem ACalls.useE {P g args} {α : Type} {S : Nat} {f : α -> PV} {R : List α -> Prop} {H : List Obj} {K : V -> List Obj -> Prop} (h : ACalls P g args [] fun x H' => ∃ l : List α, R l /\ x = .sl 0 0 l.length l.length /\ H' = [.elems S (l.map f)])
  (k : ∀ l, R l -> K (.sl H.length 0 l.length l.length) (H ++ [.elems S (l.map f)])) (ha : refBs 0 args = true := by rfl) : ACalls P g args H K := by
 refine (h.behind ha H).mono ?_;rintro x H' ⟨y', H1, ⟨l, rl, rfl, rfl⟩, rfl, rfl⟩;simpa [shV, shO] using k l rl
theorem ACalls.use {P g args} {y : PV} {H : List Obj} {K : V -> List Obj -> Prop} (h : ACalls P g args [] fun x H' => x = .p y /\ H' = []) (k : K (.p y) H) (ha : refBs 0 args = true := by rfl) : ACalls P g args H K := by
 refine (h.behind ha H).mono ?_;rintro x H' ⟨y', H1, ⟨rfl, rfl⟩, rfl, rfl⟩;simpa [shV] using k
theorem ACalls.useF {P g args} {S n : Nat} {xs : List PV} {H : List Obj} {K : V -> List Obj -> Prop} (h : ACalls P g args [] fun x H' => x = .sl 0 0 n n /\ H' = [.elems S xs]) (k : K (.sl H.length 0 n n) (H ++ [.elems S xs])) (ha : refBs 0 args = true := by rfl) : ACalls P g args H K := by
 refine (h.behind ha H).mono ?_;rintro x H' ⟨y', H1, ⟨rfl, rfl⟩, rfl, rfl⟩;simpa [shV, shO] using k
theorem Za {P : Program} {g : FuncId} {fn : Func} {c : Code} {args : List V} {y : PV} (hf : P.funcs[g]? = some fn) (hb : fn.body = some c) (hg : Zg P g)
  (h : awp [] P c (args ++ List.replicate (fn.ntmps - args.length) .junk) [] (Zcv P fn.results.toList fun x _ => x = .p y)) : ACalls P g args [] fun x H' => x = .p y /\ H' = [] :=
 (Xf hf hb hg (Zd [] _ _ _ _ h)).pure
theorem Yo {P : Program} {g : FuncId} {fn : Func} {c : Code} {args : List V} {S n : Nat} {xs : List PV} (hn : xs.length = n) (hf : P.funcs[g]? = some fn) (hb : fn.body = some c) (hg : Zg P g)
  (h : awp [] P c (args ++ List.replicate (fn.ntmps - args.length) .junk) [] (Zcv P fn.results.toList fun x H' => ∃ o, x = .sl o 0 n n /\ oat H' o = .elems S xs)) : ACalls P g args [] fun x H' => x = .sl 0 0 n n /\ H' = [.elems S xs] :=
 (Xf hf hb hg (Zd [] _ _ _ _ h)).fresh hn
theorem JD (cuts : List Nat) {P : Program} {g : FuncId} {fn : Func} {c : Code} {args : List V} {S n : Nat} {xs : List PV} (hn : xs.length = n) (hf : P.funcs[g]? = some fn) (hb : fn.body = some c) (hg : Zg P g)
  (h : awp cuts P c (args ++ List.replicate (fn.ntmps - args.length) .junk) [] (Zcv P fn.results.toList fun x H' => ∃ o, x = .sl o 0 n n /\ oat H' o = .elems S xs)) : ACalls P g args [] fun x H' => x = .sl 0 0 n n /\ H' = [.elems S xs] :=
 (Xf hf hb hg (Zd cuts _ _ _ _ h)).fresh hn
theorem ZB (cuts : List Nat) {P : Program} {g : FuncId} {fn : Func} {c : Code} {args : List V} {α : Type} {S : Nat} {f : α -> PV} {R : List α -> Prop} (hf : P.funcs[g]? = some fn) (hb : fn.body = some c) (hg : Zg P g)
  (h : awp cuts P c (args ++ List.replicate (fn.ntmps - args.length) .junk) [] (Zcv P fn.results.toList fun x H' => ∃ l : List α, R l /\ ∃ o, x = .sl o 0 l.length l.length /\ oat H' o = .elems S (l.map f))) : ACalls P g args [] fun x H' => ∃ l : List α, R l /\ x = .sl 0 0 l.length l.length /\ H' = [.elems S (l.map f)] :=
 (Xf hf hb hg (Zd cuts _ _ _ _ h)).freshE
theorem Weak.ofNil {n0 fr H fr' H'} (t S : Nat) (h : gt fr t = .p (.list true [])) (hn : n0 <= H.length) (k : Weak n0 (pt fr t (.sl H.length 0 0 0)) (H ++ [.elems S []]) fr' H') : Weak n0 fr H fr' H' :=
 (Weak.nil t S h hn).trans k
end Go.AM
namespace Go.AM
open Go.RowKit
section
variable {P : Program} {H : List Obj} {t : TypeId} {fr : List V}
def ZgV (e : Option (Option Nat × Nat)) (c : Bool) (xs : List PV) (lo hi : V) : Option V := match e, lo, hi with
 | some (none, S), .p (.int _ a), .p (.int _ b) => if Zgo S xs = true /\ 0 <= a /\ a <= b /\ b <= xs.length then some (.p (.list (c && decide (b = xs.length)) ((xs.take b.toNat).drop a.toNat))) else none
 | _, _, _ => none
def V.isInt : V -> Option Int
 | .p (.int _ n) => some n
 | _ => none
theorem V.isInt_some {x : V} {n} (h : x.isInt = some n) : ∃ k, x = .p (.int k n) := by
 unfold V.isInt at h; split at h
 ·rename_i k m; simp at h; exact ⟨k, by rw [h]⟩
 ·cases h
theorem Vo {d : Int} {x : Operand} : abd d fr (some x) = (ev fr x).isInt := rfl
theorem Qh {c xs k k' a b} : (Uf P t c xs a b none).map .p = ZgV (YF P t) c xs (.p (.int k a)) (.p (.int k' b)) := by
 simp only [Uf, ZgV]
 cases YF P t with
 | none => rfl
 | some q =>
  obtain ⟨e, S⟩ := q
  cases e with
  | some n => rfl
  | none => simp only []; split <;> rfl
theorem Zgp {e c xs lo hi} (h : lo.isInt = none) : ZgV e c xs lo hi = none := by
 unfold ZgV; split
 ·simp [V.isInt] at h
 ·rfl
theorem Zgv {e c xs lo hi} (h : hi.isInt = none) : ZgV e c xs lo hi = none := by
 unfold ZgV; split
 ·simp [V.isInt] at h
 ·rfl
@[go_sem] theorem Zoc {c xs hi} : XK P H t fr (.p (.list c xs)) none (some hi) none = ZgV (YF P t) c xs (.p (.int .i64 0)) (ev fr hi) := by
 simp only [XK, Vo]
 cases h : (ev fr hi).isInt with
 | none => simp [abd, Zgv h]
 | some n => obtain ⟨k, e⟩ := V.isInt_some h; rw [e, <- Qh]; rfl
@[go_sem] theorem Zqb {c xs lo} : XK P H t fr (.p (.list c xs)) (some lo) none none = ZgV (YF P t) c xs (ev fr lo) (.p (.int .i64 (List.length xs))) := by
 simp only [XK, Vo]
 cases h : (ev fr lo).isInt with
 | none => simp [Zgp h]
 | some n => obtain ⟨k, e⟩ := V.isInt_some h; rw [e, <- Qh]; rfl
@[go_sem] theorem ZlU {c xs lo hi} : XK P H t fr (.p (.list c xs)) (some lo) (some hi) none = ZgV (YF P t) c xs (ev fr lo) (ev fr hi) := by
 simp only [XK, Vo]
 cases h : (ev fr lo).isInt with
 | none => simp [Zgp h]
 | some n =>
  cases h2 : (ev fr hi).isInt with
  | none => simp [Zgv h2]
  | some m => obtain ⟨k, e⟩ := V.isInt_some h; obtain ⟨k2, e2⟩ := V.isInt_some h2; rw [e, e2, <- Qh]
@[go_sem] theorem Zvv {α : Type} {f : α -> PV} {l : List α} {S c k k' a b} (h0 : 0 <= a) (h1 : a <= b) (h2 : b <= (l.length : Int)) :
  ZgV (some (none, S)) c (l.map f) (.p (.int k a)) (.p (.int k' b)) = if Zgo S (l.map f) = true then some (.p (.list (c && decide (b = l.length)) (((l.take b.toNat).drop a.toNat).map f))) else none := by
 simp only [ZgV, List.length_map]
 by_cases h : Zgo S (l.map f) = true
 ·rw [if_pos ⟨h, h0, h1, h2⟩, if_pos h]; simp
 ·rw [if_neg (fun q => h q.1), if_neg h]
end
def ZgF (P : Program) (d : Option TypeDesc) (x i : V) : Option V :=
 match d, x, i with
 | some .string, .p (.str s), .p (.int _ n) => if 0 <= n then (s[n.toNat]?).map fun b => .p (.int .u8 b.toNat) else none
 | some (.array k e), .p (.agg cs), .p (.int _ n) => if 0 <= n /\ n < k then (match tsz P e with | some m => (apart P e cs (n.toNat * m)).map .p | none => none) else none
 | _, _, _ => none
@[go_sem] theorem Zv8 {P : Program} {t : TypeId} {x i : V} : ZeL P t x i = ZgF P (P.underlying t) x i := Eq.trans rfl rfl
@[go_sem] theorem Zo5 {P : Program} {s : List UInt8} {k n} (h0 : 0 <= n) (h1 : n < (s.length : Int)) : ZgF P (some .string) (.p (.str s)) (.p (.int k n)) = some (.p (.int .u8 ((nth s n.toNat).toNat : Nat))) := by
 have h : n.toNat < s.length := by omega
 simp [ZgF, h0, h, Ze h]
def ZhR (d : Option TypeDesc) (s : List UInt8) (lo hi : V) : Option V := match d, lo, hi with
 | some .string, .p (.int _ a), .p (.int _ b) => if 0 <= a /\ a <= b /\ b <= s.length then some (.p (.str ((s.take b.toNat).drop a.toNat))) else none
 | _, _, _ => none
theorem ZlA {d s lo hi} (h : lo.isInt = none) : ZhR d s lo hi = none := by
 unfold ZhR; split
 ·simp [V.isInt] at h
 ·rfl
theorem Zmo {d s lo hi} (h : hi.isInt = none) : ZhR d s lo hi = none := by
 unfold ZhR; split
 ·simp [V.isInt] at h
 ·rfl
section
variable {P : Program} {H : List Obj} {t : TypeId} {fr : List V}
theorem Zeq {s : List UInt8} {k k' a b} : (match P.underlying t with | some .string => (if 0 <= a /\ a <= b /\ b <= (s.length : Int) then some (V.p (.str ((s.take b.toNat).drop a.toNat))) else none) | _ => none) = ZhR (P.underlying t) s (.p (.int k a)) (.p (.int k' b)) := by
 simp only [ZhR]
 cases P.underlying t with
 | none => rfl
 | some d => cases d <;> rfl
@[go_sem] theorem Zj6 {s lo hi} : XK P H t fr (.p (.str s)) (some lo) (some hi) none = ZhR (P.underlying t) s (ev fr lo) (ev fr hi) := by
 simp only [XK, Vo]
 cases h : (ev fr lo).isInt with
 | none => rw [ZlA h]; simp
 | some n =>
  cases h2 : (ev fr hi).isInt with
  | none => rw [Zmo h2]; simp
  | some m =>
   obtain ⟨k, e⟩ := V.isInt_some h;obtain ⟨k2, e2⟩ := V.isInt_some h2;rw [e, e2, <- Zeq]
   cases P.underlying t with
   | none => rfl
   | some d => cases d <;> rfl
end
@[go_sem low] theorem Zho {H : List Obj} {S b xs ys o n} : JO H (some (S, b)) (.elems S xs) o n (some ys) = if xs.length = n /\ okE S ys = true /\ (n + ys.length) * b <= 140737488355328 /\ n + ys.length <= 140737488355328 then some (.sl o 0 (n + ys.length) (n + ys.length), ost H o (.elems S (xs ++ ys))) else none := by simp [JO]
@[go_sem] theorem Zxk {H : List Obj} {n f a b f' a' b'} : wkV H n (.fn f a b) (.fn f' a' b') = ((f' = f /\ a' = a /\ b' = b) /\ refB n (.fn f a b) = true) := by simp [wkV, frz]
@[go_sem] theorem Zxu {n f a b} : refB n (.fn f a b) = (refBs n a && refBs n b) := by simp [refB]
@[go_sem] theorem Zzl {n x} : refB n (.p x) = true := by simp [refB]
@[go_sem] theorem Zuk {n o off} : refB n (.ptr o off) = decide (o < n) := by simp [refB]
@[go_sem] theorem ZoK {n} : refBs n [] = true := by simp [refBs]
@[go_sem] theorem ZmP {n x l} : refBs n (x :: l) = (refB n x && refBs n l) := by simp [refBs]
theorem ACalls.useH {P g args H} {v : V} {H2 : List Obj} {K : V -> List Obj -> Prop} (h : ACalls P g args H fun x H' => x = v /\ H' = H2) (k : K v H2) : ACalls P g args H K :=
 h.mono (by rintro _ _ ⟨rfl, rfl⟩; exact k)
theorem JN {α : Type} {f : α -> PV} {S : Nat} (h : ∀ x, (f x).cells.length = S) (l : List α) : Zgo S (l.map f) = true := by
 cases l with
 | nil => rfl
 | cons x l => simp [Zgo, h]
@[go_sem] theorem Zx1 {k k'} {a b : Int} (h : b <= a) : J9 false [.p (.int k a), .p (.int k' b)] = some (.int k a) := by simp [J9]; omega
@[go_sem] theorem Zgt {k k'} {a b : Int} (h : a <= b) : J9 true [.p (.int k a), .p (.int k' b)] = some (.int k a) := by simp [J9]; omega
@[go_sem] theorem Ze1 {k k'} {a b : Int} (h : b < a) : J9 true [.p (.int k a), .p (.int k' b)] = some (.int k b) := by simp [J9, h]
def WL (F : Option (Nat × Nat × PV)) (H : List Obj) (x y : V) : Option (V × List Obj) := match F, x, y with
 | some (S, by', z), .p (.int .i64 n), .p (.int .i64 m) => if n = m /\ 0 <= n /\ (by' : Int) * n <= 281474976710656 /\ n <= 281474976710656 then some (.sl H.length 0 n.toNat n.toNat, H ++ [.elems S (List.replicate n.toNat z)]) else none
 | _, _, _ => none
theorem QT {P : Program} {t : TypeId} {fr : List V} {H : List Obj} {x y : Operand} {F} (h : Zib P t = some F) : WQ P (.makeSlice t x y) fr H = WL (some F) H (ev fr x) (ev fr y) := by
 unfold Zib at h
 split at h
 ·rename_i e hu
  split at h
  ·rename_i S' z' b h1 h2 h3
   split at h
   ·rename_i hc;simp at h; subst h
    have h3' : (P.info? e).map (fun x => (x.bytes : Int)) = some (b : Int) := by
     cases hi : P.info? e with
     | none => simp [hi] at h3
     | some i => simp [hi] at h3 ⊢; rw [h3]
    simp only [WQ, hu, h2, hc.1, if_true, ZhK, h1, h3'];generalize ev fr x = X;generalize ev fr y = Y
    by_cases hX : ∃ n, X = .p (.int .i64 n)
    ·obtain ⟨n, rfl⟩ := hX
     by_cases hY : ∃ m, Y = .p (.int .i64 m)
     ·obtain ⟨m, rfl⟩ := hY;simp [WL, hc.2]
     ·have e1 : WL (some (S', b, z')) H (.p (.int .i64 n)) Y = none := by
       unfold WL; split
       ·rename_i hm; exact absurd ⟨_, rfl⟩ hY
       ·rfl
      rw [e1]; split
      ·exact absurd ⟨_, rfl⟩ hY
      ·rfl
    ·have e1 : WL (some (S', b, z')) H X Y = none := by
      unfold WL; split
      ·exact absurd ⟨_, rfl⟩ hX
      ·rfl
     rw [e1]; split
     ·exact absurd ⟨_, rfl⟩ hX
     ·rfl
   ·cases h
  ·cases h
 ·cases h
@[go_sem] theorem ZsX {H : List Obj} {S b : Nat} {z n} (h0 : 0 <= n) (h1 : (b : Int) * n <= 281474976710656) (h2 : n <= 281474976710656) : WL (some (S, b, z)) H (.p (.int .i64 n)) (.p (.int .i64 n)) = some (.sl H.length 0 n.toNat n.toNat, H ++ [.elems S (List.replicate n.toNat z)]) := by
 simp only [WL]; rw [if_pos ⟨trivial, h0, h1, h2⟩]
theorem Zn1 (x y : Nat) (hx : x < 9223372036854775808) (hy : y < 9223372036854775808) : IntKind.i64.wrap ((BitVec.ofInt 64 (x : Int) ||| BitVec.ofInt 64 (y : Int)).toNat : Int) = ((x ||| y : Nat) : Int) := by
 have e : (BitVec.ofInt 64 (x : Int) ||| BitVec.ofInt 64 (y : Int)).toNat = x ||| y := by
  simp [BitVec.toNat_or, Nat.mod_eq_of_lt (show x < 18446744073709551616 by omega), Nat.mod_eq_of_lt (show y < 18446744073709551616 by omega)]
 have h : x ||| y < 2 ^ 63 := Nat.or_lt_two_pow (by omega) (by omega);rw [e];exact IntWalk.i64_in _ (by omega)
theorem Zlu (x y : Nat) (hx : x < 9223372036854775808) (hy : y < 9223372036854775808) : IntKind.i64.wrap ((BitVec.ofInt 64 (x : Int) &&& BitVec.ofInt 64 (y : Int)).toNat : Int) = ((x &&& y : Nat) : Int) := by
 have e : (BitVec.ofInt 64 (x : Int) &&& BitVec.ofInt 64 (y : Int)).toNat = x &&& y := by
  simp [BitVec.toNat_and, Nat.mod_eq_of_lt (show x < 18446744073709551616 by omega), Nat.mod_eq_of_lt (show y < 18446744073709551616 by omega)]
 have h : x &&& y <= x := Nat.and_le_left;rw [e];exact IntWalk.i64_in _ (by omega)
@[go_sem high] theorem Zis {P : Program} {t : TypeId} {x y : Nat} (hx : x < 9223372036854775808) (hy : y < 9223372036854775808) : Yb P .or t (.p (.int .i64 (x : Int))) (.p (.int .i64 (y : Int))) = some (.int .i64 ((x ||| y : Nat) : Int)) := by
 rw [ZgN]; exact congrArg (fun q => some (PV.int .i64 q)) (Zn1 x y hx hy)
@[go_sem high] theorem Zrk {P : Program} {t : TypeId} {x y : Nat} (hx : x < 9223372036854775808) (hy : y < 9223372036854775808) : Yb P .and t (.p (.int .i64 (x : Int))) (.p (.int .i64 (y : Int))) = some (.int .i64 ((x &&& y : Nat) : Int)) := by
 rw [Zhy]; exact congrArg (fun q => some (PV.int .i64 q)) (Zlu x y hx hy)
def pw (k : Nat) : Nat := 2 ^ k
theorem WV (k : Nat) : pw (k + 1) = 2 * pw k := by simp [pw, Nat.pow_succ]; omega
theorem Z3 {k m : Nat} (h : k <= m) : pw k <= pw m := Nat.pow_le_pow_right (by omega) h
theorem Um (k : Nat) : 0 < pw k := Nat.pow_pos (by omega)
theorem Qe : pw 62 = 4611686018427387904 := by decide
@[go_sem high] theorem ZpH {P : Program} {t : TypeId} {k'} {a : Int} (h0 : 0 <= a) (h1 : a <= 62) : Yb P .shl t (.p (.int .i64 1)) (.p (.int k' a)) = some (.int .i64 ((pw a.toNat : Nat) : Int)) := by
 rw [Zjg h0]
 have h2 : min a.toNat IntKind.i64.bits = a.toNat := by show min a.toNat 64 = a.toNat; omega
 rw [h2, Int.one_mul]
 have h3 : ((2 : Int) ^ a.toNat) = ((pw a.toNat : Nat) : Int) := by simp [pw]
 rw [h3];have := Z3 (show a.toNat <= 62 by omega);have := Qe;rw [IntWalk.i64_in _ (by omega)]
attribute [go_sem] List.length_append List.map_append not_false_eq_true not_true_eq_false false_and and_false true_or or_true false_or or_false Classical.not_not Bool.false_eq_true Bool.and_false Bool.false_and
end Go.AM
namespace Go.AM
open Go.RowKit
theorem ZaM {P ds frJ H} {K K' : List V -> Prop} : ∀ (l : List Oper) (i : Nat) (vals : List V), (∀ ys, ys.length = vals.length + l.length -> K ys -> K' ys) -> hd P ds frJ H K i l vals -> hd P ds frJ H K' i l vals
 | [], i, vals, hk, h => hk vals rfl h
 | o :: l, i, vals, hk, h => by
  have ih : ∀ y, hd P ds frJ H K (i + 1) l (vals ++ [y]) -> hd P ds frJ H K' (i + 1) l (vals ++ [y]) := fun y => ZaM l (i + 1) (vals ++ [y]) fun ys hy => hk ys (by simp at hy ⊢; omega);simp only [hd] at h ⊢
  split at h
  ·obtain ⟨y, h1, h2⟩ := h;exact ⟨y, h1, ih y h2⟩
  ·unfold ZZ at h ⊢
   split at h
   ·exact ⟨fun e => by obtain ⟨y, h1, h2⟩ := h.1 e; exact ⟨y, h1, ih y h2⟩, fun e => ih _ (h.2 e)⟩
   ·exact ih _ h
   ·exact h.elim
def XC : List (Option Nat) -> List V -> List V -> List V
 | some d :: ds, v :: vals, fr => XC ds vals (pt fr d v)
 | none :: ds, _ :: vals, fr => XC ds vals fr
 | _, _, fr => fr
theorem V9 (d : Option Nat) (v : V) (ds : List (Option Nat)) (vals : List V) : ∀ (l : List Nat) (fr : List V), ZD (d :: ds) (v :: vals) (l.map (· + 1)) fr = ZD ds vals l fr
 | [], fr => rfl
 | j :: l, fr => by
  simp only [List.map_cons, ZD, List.getElem?_cons_succ]
  split <;> exact V9 d v ds vals l _
theorem Je : ∀ (ds : List (Option Nat)) (vals : List V) (fr : List V), vals.length = ds.length -> ZD ds vals (List.range ds.length) fr = XC ds vals fr
 | [], [], fr, _ => rfl
 | d :: ds, v :: vals, fr, h => by
  have ih := fun fr => Je ds vals fr (by simpa using h);rw [List.length_cons, List.range_succ_eq_map]
  cases d with
  | none => simp only [ZD, List.getElem?_cons_zero, XC]; rw [V9]; exact ih fr
  | some d => simp only [ZD, List.getElem?_cons_zero, XC]; rw [V9]; exact ih _
 | [], _ :: _, _, h => by simp at h
 | _ :: _, [], _, h => by simp at h
theorem V8 {P : Program} {id : Nat} {l : List Oper} {fr : List V} {H : List Obj} {Q : Exit -> List V -> List Obj -> Prop} {t} (hm : P.follows .mixedOrders = true) (hB : X6 (List.toArray l) l.length = true)
  (h : hd P (l.map (·.dst)) (Zu (l.map (·.dst)) fr) H (Zv (fun vals => Q .normal (XC (l.map (·.dst)) vals (Zu (l.map (·.dst)) fr)) H) ⟨⟩) 0 l []) :
  AWP P (.region id (Zv (List.toArray l) t) true) fr H Q := by
 refine Zaa (ops := List.toArray l) l.length hm hB ?_;have e0 : (List.toArray l).toList = l := rfl;rw [e0];have e1 : (l.map (fun x => Oper.dst x)).take l.length = l.map (·.dst) := List.take_of_length_le (by simp);have e2 : l.take l.length = l := List.take_length
 have e3 : l.drop l.length = [] := by simp
 rw [e1, e2, e3];refine ZaM _ _ _ (fun ys hy hk => ?_) h;have e4 := Je (l.map (·.dst)) ys (Zu (l.map (·.dst)) fr) (by simp at hy ⊢; omega);rw [List.length_map] at e4;simp only [Yg];rw [e4];exact hk
def exq (A : V -> Prop) (B : V -> Prop) : Prop := ∃ y, A y /\ B y
section
variable {P : Program} {ds : List (Option Nat)} {frJ : List V} {H : List Obj} {K : List V -> Prop} {i : Nat} {r : List Oper} {vals : List V} {d : Option Nat} {op : Op} {t : TypeId} {ps : String} {af : Array Edge}
@[go_sem ↓] theorem Zzj : hd P ds frJ H K i [] vals = K vals := Eq.trans rfl rfl
@[go_sem ↓] theorem Zv6 : hd P ds frJ H K i (⟨d, op, t, ps, af, none⟩ :: r) vals = exq (fun y => Zt P ⟨d, op, t, ps, af, none⟩ (idF (ZD ds vals (Zo i ⟨d, op, t, ps, af, none⟩) frJ)) H (Zv (fun x H' => x = y /\ H' = H) ⟨⟩)) (Zv (fun y => hd P ds frJ H K (i + 1) r (vals ++ [y])) ⟨⟩) := Eq.trans rfl rfl
@[go_sem ↓, go_sem] theorem ZAR {v : V} {B : V -> Prop} {t} : exq (fun y => v = y) (Zv B t) = B v := by simp [exq, Zv]
@[go_sem] theorem Zsk {l : List Edge} {g} : Zo i ⟨d, op, t, ps, List.toArray l, g⟩ = (l.filter fun e => Region.binds .any e && decide (e.on < i)).map (·.on) := Eq.trans rfl rfl
@[go_sem] theorem ZnM {on} : Region.binds .any ⟨on, .data⟩ = true := Eq.trans rfl rfl
@[go_sem] theorem ZlD {on} : Region.binds .any ⟨on, .phase⟩ = true := Eq.trans rfl rfl
@[go_sem] theorem Zmx {on} : Region.binds .any ⟨on, .chain⟩ = true := Eq.trans rfl rfl
@[go_sem] theorem Znt {on k} : Region.binds .any ⟨on, .textOnly k⟩ = false := Eq.trans rfl rfl
@[go_sem] theorem ZtN {on k} : Region.binds .any ⟨on, .gcOnly k⟩ = false := Eq.trans rfl rfl
def ZaQ (ds : List (Option Nat)) (vals : List V) (l : List Nat) (fr : List V) (a : Option (Option Nat)) (v : Option V) : List V := match a, v with
 | some (some d), some v => ZD ds vals l (pt fr d v)
 | _, _ => ZD ds vals l fr
@[go_sem] theorem ZuG {fr} : ZD ds vals [] fr = fr := Eq.trans rfl rfl
@[go_sem] theorem ZpN {j l fr} : ZD ds vals (j :: l) fr = ZaQ ds vals l fr ds[j]? vals[j]? := by simp only [ZD, ZaQ]; split <;> simp_all
@[go_sem] theorem ZmS {l fr d v} : ZaQ ds vals l fr (some (some d)) (some v) = ZD ds vals l (pt fr d v) := Eq.trans rfl rfl
@[go_sem] theorem ZpB {d ds v vals fr} : XC (some d :: ds) (v :: vals) fr = XC ds vals (pt fr d v) := Eq.trans rfl rfl
@[go_sem] theorem ZuM {fr} : XC [] [] fr = fr := Eq.trans rfl rfl
@[go_sem] theorem ZrQ {fr} : Zu [] fr = fr := Eq.trans rfl rfl
@[go_sem] theorem Znj {d l fr} : Zu (some d :: l) fr = Zu l (pt fr d .junk) := Eq.trans rfl rfl
theorem Zm {f azs} {z : PV} {B : V -> Prop} {t} (h : ACalls P f azs [] fun x H' => x = .p z /\ H' = []) (k : B (.p z)) (ha : refBs 0 azs = true := by rfl) :
  exq (fun y => ACalls P f azs H (Zv (Zv (fun x H' => x = y /\ H' = H) ⟨⟩) ⟨⟩)) (Zv B t) :=
 ⟨.p z, h.use ⟨rfl, rfl⟩ ha, k⟩
end
section
variable {P : Program} {fr : List V} {H : List Obj} {k : V -> List Obj -> Prop} {d : Option Nat} {t : TypeId} {ps : String} {af : Array Edge} {g : Option (Nat × Bool)}
@[go_sem ↓] theorem Zni {u n l} : Zt P ⟨d, .buildSlice u n (List.toArray l), t, ps, af, g⟩ fr H k = pst ((Zgf (U7 P u) H n (l.map fun x => (x.1, ev fr x.2))).map .p) (Zv (fun v => k v H) ⟨⟩) := by
 simp only [Zt]
 cases (Zgf (U7 P u) H n (l.map fun x => (x.1, ev fr x.2))) <;> simp [pst, Zv]
@[go_sem] theorem ZnE {S n l} : Zgf (some S) H n l = if n = l.length /\ n * S <= 16777216 /\ 0 < S then (QE H S 0 l).map (.list false) else none := Eq.trans rfl rfl
@[go_sem ↓] theorem Zlw {x} : Zt P ⟨d, .move x, t, ps, af, g⟩ fr H k = Zr P ⟨d, .move x, t, ps, af, g⟩ fr H k := rfl
@[go_sem ↓] theorem ZhI {x} : Zt P ⟨d, .assign x, t, ps, af, g⟩ fr H k = Zr P ⟨d, .assign x, t, ps, af, g⟩ fr H k := rfl
@[go_sem ↓] theorem Zmn {x y z} : Zt P ⟨d, .pick x y z, t, ps, af, g⟩ fr H k = Zr P ⟨d, .pick x y z, t, ps, af, g⟩ fr H k := rfl
@[go_sem ↓] theorem Zko {x} : Zt P ⟨d, .alloc x, t, ps, af, g⟩ fr H k = Zr P ⟨d, .alloc x, t, ps, af, g⟩ fr H k := rfl
@[go_sem ↓] theorem Znu {x y} : Zt P ⟨d, .box x y, t, ps, af, g⟩ fr H k = Zr P ⟨d, .box x y, t, ps, af, g⟩ fr H k := rfl
@[go_sem ↓] theorem ZjM {x y} : Zt P ⟨d, .build x y, t, ps, af, g⟩ fr H k = Zr P ⟨d, .build x y, t, ps, af, g⟩ fr H k := rfl
@[go_sem ↓] theorem ZmJ {x y} : Zt P ⟨d, .load x y, t, ps, af, g⟩ fr H k = Zr P ⟨d, .load x y, t, ps, af, g⟩ fr H k := rfl
@[go_sem ↓] theorem ZjW {x y z} : Zt P ⟨d, .store x y z, t, ps, af, g⟩ fr H k = Zr P ⟨d, .store x y z, t, ps, af, g⟩ fr H k := rfl
@[go_sem ↓] theorem ZfF {x} : Zt P ⟨d, .nilCheck x, t, ps, af, g⟩ fr H k = Zr P ⟨d, .nilCheck x, t, ps, af, g⟩ fr H k := rfl
@[go_sem ↓] theorem Zjo {x y z u v} : Zt P ⟨d, .binOp x y z u v, t, ps, af, g⟩ fr H k = Zr P ⟨d, .binOp x y z u v, t, ps, af, g⟩ fr H k := rfl
@[go_sem ↓] theorem Zmm {x y z} : Zt P ⟨d, .unOp x y z, t, ps, af, g⟩ fr H k = Zr P ⟨d, .unOp x y z, t, ps, af, g⟩ fr H k := rfl
@[go_sem ↓] theorem Zg5 {x y z} : Zt P ⟨d, .convert x y z, t, ps, af, g⟩ fr H k = Zr P ⟨d, .convert x y z, t, ps, af, g⟩ fr H k := rfl
@[go_sem ↓] theorem ZgE {x y z} : Zt P ⟨d, .makeFunc x y z, t, ps, af, g⟩ fr H k = Zr P ⟨d, .makeFunc x y z, t, ps, af, g⟩ fr H k := rfl
@[go_sem ↓] theorem Zd7 {x y z} : Zt P ⟨d, .makeSlice x y z, t, ps, af, g⟩ fr H k = Zr P ⟨d, .makeSlice x y z, t, ps, af, g⟩ fr H k := rfl
@[go_sem ↓] theorem ZjN {x y z u v} : Zt P ⟨d, .slice x y z u v, t, ps, af, g⟩ fr H k = Zr P ⟨d, .slice x y z u v, t, ps, af, g⟩ fr H k := rfl
@[go_sem ↓] theorem Zd6 {x y z} : Zt P ⟨d, .fieldAddr x y z, t, ps, af, g⟩ fr H k = Zr P ⟨d, .fieldAddr x y z, t, ps, af, g⟩ fr H k := rfl
@[go_sem ↓] theorem Zkl {x y z} : Zt P ⟨d, .field x y z, t, ps, af, g⟩ fr H k = Zr P ⟨d, .field x y z, t, ps, af, g⟩ fr H k := rfl
@[go_sem ↓] theorem Zd9 {x y z} : Zt P ⟨d, .indexAddr x y z, t, ps, af, g⟩ fr H k = Zr P ⟨d, .indexAddr x y z, t, ps, af, g⟩ fr H k := rfl
@[go_sem ↓] theorem ZjI {x y z} : Zt P ⟨d, .index x y z, t, ps, af, g⟩ fr H k = Zr P ⟨d, .index x y z, t, ps, af, g⟩ fr H k := rfl
@[go_sem ↓] theorem Zg3 {x y} : Zt P ⟨d, .extract x y, t, ps, af, g⟩ fr H k = Zr P ⟨d, .extract x y, t, ps, af, g⟩ fr H k := rfl
@[go_sem ↓] theorem ZkT {x y z} : Zt P ⟨d, .call ⟨.value x, y, z⟩, t, ps, af, g⟩ fr H k = Zr P ⟨d, .call ⟨.value x, y, z⟩, t, ps, af, g⟩ fr H k := rfl
@[go_sem ↓] theorem ZmU {y z} : Zt P ⟨d, .call ⟨.builtin .len, y, z⟩, t, ps, af, g⟩ fr H k = Zr P ⟨d, .call ⟨.builtin .len, y, z⟩, t, ps, af, g⟩ fr H k := rfl
@[go_sem ↓] theorem Zm9 {y z} : Zt P ⟨d, .call ⟨.builtin .max, y, z⟩, t, ps, af, g⟩ fr H k = Zr P ⟨d, .call ⟨.builtin .max, y, z⟩, t, ps, af, g⟩ fr H k := rfl
@[go_sem ↓] theorem ZnB {y z} : Zt P ⟨d, .call ⟨.builtin .min, y, z⟩, t, ps, af, g⟩ fr H k = Zr P ⟨d, .call ⟨.builtin .min, y, z⟩, t, ps, af, g⟩ fr H k := rfl
theorem Kd {o fr' H'} (h : fr = fr') (h2 : H = H') : Zt P o fr H k = Zt P o fr' H' k := by rw [h, h2]
end
attribute [congr] Kd
attribute [go_sem] List.filter_cons List.filter_nil
end Go.AM
namespace Go.AM
open Go.RowKit
def vw (H : List Obj) : V -> Option V
 | .p x => some (.p x)
 | .fn f [] [] => some (.fn f [] [])
 | .sl o off len tot => match oat H o with
  | .elems _ xs => if xs.length = tot /\ off + len <= tot then some (.p (.list false ((xs.take (off + len)).drop off))) else none
  | _ => none
 | _ => none
def vws (H : List Obj) : List V -> Option (List V)
 | [] => some []
 | x :: l => match vw H x, vws H l with | some y, some ys => some (y :: ys) | _, _ => none
abbrev Zlm : Nat -> Prop := fun _ => False
theorem Zi8 {b : Nat} : ¬ Own Zlm [] b := by simp [Own]
theorem Zh6 {w : World} (he : Env Zlm [] w) : Rel Zlm [] [] w := ⟨⟨rfl, fun b hb => hb.elim, fun i j b hi => by simp at hi, fun i b hi => by simp at hi, fun o cs ho => by simp at ho, fun o S xs ho => by simp at ho, fun o es ho => by simp at ho, fun o T E r bs ho => by simp at ho⟩, he⟩
def rd1 (H : List Obj) : V -> Option PV
 | .p x => some x
 | .sl o off len tot => match oat H o with
  | .elems _ xs => if xs.length = tot /\ off + len <= tot then some (.list false ((xs.take (off + len)).drop off)) else none
  | _ => none
 | _ => none
def rds (H : List Obj) : List V -> Option (List PV)
 | [] => some []
 | x :: l => match rd1 H x, rds H l with | some y, some ys => some (y :: ys) | _, _ => none
def rd (H : List Obj) : V -> Option PV
 | .agg cs => (rds H cs).map .agg
 | x => rd1 H x
@[go_sem] theorem ZyZ {o off len tot r} : QC (.sl o off len tot :: r) = none := Eq.trans rfl rfl
attribute [go_sem] Option.map_none
end Go.AM
set_option linter.unusedVariables false
set_option linter.unusedSimpArgs false
namespace Go.Proofs.YtcdoglogglbemaaGreatDoor.K
open Go Go.AM
def Ed (be : List (Int × Int)) (a b : Nat) : Prop := ∃ p ∈ be, p.1 = (a : Int) /\ p.2 = (b : Int)
inductive Ch (be : List (Int × Int)) : Nat -> Nat -> Prop where
 | one {a b} (h : Ed be a b) : Ch be a b
 | more {a b c} (h : Ch be a b) (k : Ed be b c) : Ch be a c
theorem Ch.trans {be a b c} (h : Ch be a b) (k : Ch be b c) : Ch be a c := by
 induction k with
 | one h2 => exact h.more h2
 | more _ h2 ih => exact ih.more h2
def Val (n : Nat) (be : List (Int × Int)) : Prop := ∀ p ∈ be, 0 <= p.1 /\ p.1 < n /\ 0 <= p.2 /\ p.2 < n
theorem Ch.lt {n be} (hv : Val n be) {a b} (h : Ch be a b) : a < n /\ b < n := by
 induction h with
 | one h => obtain ⟨p, hp, h1, h2⟩ := h; have := hv p hp; omega
 | more _ h ih => obtain ⟨p, hp, h1, h2⟩ := h; have := hv p hp; omega
def cst (out : List Nat) (p : Int × Int) : List Nat := out.set p.2.toNat (nth out p.2.toNat ||| nth out p.1.toNat ||| pw p.1.toNat)
def pas (out : List Nat) (be : List (Int × Int)) : List Nat := be.foldl cst out
structure Snd (n : Nat) (be : List (Int × Int)) (out : List Nat) : Prop where
 len : out.length = n
 lt : ∀ b, b < n -> nth out b < pw n
 snd : ∀ a b, b < n -> (nth out b).testBit a = true -> Ch be a b
structure Clo (n : Nat) (be : List (Int × Int)) (out : List Nat) : Prop extends Snd n be out where
 cmp : ∀ a b, Ch be a b -> (nth out b).testBit a = true
theorem J1 (l : List Nat) (i j v : Nat) (h : j < l.length) : nth (l.set i v) j = if i = j then v else nth l j := by
 simp only [nth, List.getD_eq_getElem?_getD, List.getElem?_set]
 by_cases hij : i = j
 ·subst hij; simp [h]
 ·simp [hij]
theorem Snd.zero (n be) : Snd n be (List.replicate n 0) := by
 refine ⟨by simp, fun b hb => ?_, fun a b hb h => ?_⟩
 ·rw [Ze (by simpa using hb)]; simp [Um]
 ·rw [Ze (by simpa using hb)] at h; simp at h
theorem Z5 (a b : Nat) : (pw a).testBit b = decide (a = b) := by simp [pw, Nat.testBit_two_pow]
theorem Snd.step {n be out} (hv : Val n be) (hs : Snd n be out) {p} (hp : p ∈ be) : Snd n be (cst out p) := by
 obtain ⟨h1, h2, h3, h4⟩ := hv p hp;refine ⟨by simp [cst, hs.len], fun b hb => ?_, fun a b hb h => ?_⟩
 ·rw [cst, J1 _ _ _ _ (by rw [hs.len]; exact hb)]
  split
  ·have e1 := hs.lt p.2.toNat (by omega);have e2 := hs.lt p.1.toNat (by omega)
   have e3 : pw p.1.toNat < pw n := by
    have := WV p.1.toNat;have h5 : pw (p.1.toNat + 1) <= pw n := Z3 (by omega);have := Um p.1.toNat;omega
   exact Nat.or_lt_two_pow (Nat.or_lt_two_pow e1 e2) e3
  ·exact hs.lt b hb
 ·rw [cst, J1 _ _ _ _ (by rw [hs.len]; exact hb)] at h
  split at h
  ·rename_i hb2;have hE : Ed be p.1.toNat b := ⟨p, hp, by omega, by omega⟩;simp only [Nat.testBit_or, Bool.or_eq_true] at h;rcases h with (h | h) | h
   ·exact hs.snd a b hb (by rw [<- hb2]; exact h)
   ·exact (hs.snd a _ (by omega) h).more hE
   ·rw [Z5] at h;simp at h;subst h;exact .one hE
  ·exact hs.snd a b hb h
theorem Snd.rnd {n be out} (hv : Val n be) (hs : Snd n be out) : ∀ (l : List (Int × Int)), (∀ p ∈ l, p ∈ be) -> Snd n be (pas out l) := by
 intro l
 induction l generalizing out with
 | nil => intro _; exact hs
 | cons p l ih => intro h; exact ih (hs.step hv (h p (by simp))) fun q hq => h q (by simp [hq])
theorem Zrv (x y : Nat) : x <= x ||| y := Nat.left_le_or
def tot (l : List Nat) : Nat := l.foldr (· + ·) 0
theorem Zen : ∀ (l : List Nat) (i v : Nat), i < l.length -> tot (l.set i v) + nth l i = tot l + v
 | [], i, v, h => by simp at h
 | x :: l, 0, v, h => by simp [tot, nth]; omega
 | x :: l, i + 1, v, h => by
  have := Zen l i v (by simpa using h);simp only [List.set_cons_succ, tot, List.foldr_cons, nth, List.getD_cons_succ] at this ⊢;omega
theorem ZjF : ∀ (l : List Nat) (m : Nat), (∀ i, i < l.length -> nth l i < m) -> tot l <= l.length * m
 | [], m, h => by simp [tot]
 | x :: l, m, h => by
  have h0 := h 0 (by simp)
  have := ZjF l m fun i hi => by have := h (i + 1) (by simpa using hi); simpa [nth] using this
  simp only [tot, List.foldr_cons, List.length_cons, Nat.add_mul, nth, List.getD_cons_zero] at this h0 ⊢;omega
theorem Zf6 (out : List Nat) (p : Int × Int) (h : p.2.toNat < out.length) : tot out <= tot (cst out p) /\ (tot (cst out p) = tot out -> cst out p = out) := by
 have e := Zen out p.2.toNat (nth out p.2.toNat ||| nth out p.1.toNat ||| pw p.1.toNat) h;have h1 : nth out p.2.toNat <= nth out p.2.toNat ||| nth out p.1.toNat ||| pw p.1.toNat := Nat.le_trans (Zrv _ _) (Zrv _ _);refine ⟨by rw [cst]; omega, fun he => ?_⟩;rw [cst] at he ⊢
 have : nth out p.2.toNat ||| nth out p.1.toNat ||| pw p.1.toNat = nth out p.2.toNat := by omega
 rw [this];apply List.ext_getElem (by simp);intro i h2 h3;rw [List.getElem_set]
 split
 ·rename_i h4; subst h4; rw [Ze h]
 ·rfl
theorem Zda (out l m) : pas out (l ++ m) = pas (pas out l) m := by simp [pas, List.foldl_append]
theorem Qm {n be} (hv : Val n be) : ∀ (l : List (Int × Int)) (out : List Nat), (∀ p ∈ l, p ∈ be) -> Snd n be out -> tot out <= tot (pas out l) /\ (tot (pas out l) = tot out -> pas out l = out /\ ∀ p ∈ l, cst out p = out)
 | [], out, _, _ => ⟨Nat.le_refl _, fun _ => ⟨rfl, fun p hp => by simp at hp⟩⟩
 | p :: l, out, hl, hs => by
  obtain ⟨h1, h2, h3, h4⟩ := hv p (hl p (by simp));have c := Zf6 out p (by rw [hs.len]; omega);have r := Qm hv l (cst out p) (fun q hq => hl q (by simp [hq])) (hs.step hv (hl p (by simp)));refine ⟨Nat.le_trans c.1 r.1, fun e => ?_⟩;have e : tot (pas (cst out p) l) = tot out := e
  have e1 : tot (cst out p) = tot out := by have := r.1; have := c.1; omega
  have e2 := c.2 e1
  have e3 : tot (pas (cst out p) l) = tot (cst out p) := by rw [e1]; exact e
  obtain ⟨e4, e5⟩ := r.2 e3;rw [e2] at e4 e5;refine ⟨by show pas (cst out p) l = out; rw [e2]; exact e4, fun q hq => ?_⟩;rcases List.mem_cons.1 hq with rfl | hq
  ·exact e2
  ·exact e5 q hq
theorem Snd.clo {n be out} (hv : Val n be) (hs : Snd n be out) (h : tot (pas out be) = tot out) : Clo n be out := by
 have hc := ((Qm hv be out (fun _ h => h) hs).2 h).2
 have key : ∀ p ∈ be, ∀ a, (a = p.1.toNat \/ (nth out p.1.toNat).testBit a = true) -> (nth out p.2.toNat).testBit a = true := fun p hp a ha => by
  obtain ⟨h1, h2, h3, h4⟩ := hv p hp;have e := hc p hp
  have e2 : nth (cst out p) p.2.toNat = nth out p.2.toNat := by rw [e]
  rw [cst, J1 _ _ _ _ (by rw [hs.len]; omega)] at e2;simp only [if_true] at e2;rw [<- e2];simp only [Nat.testBit_or, Bool.or_eq_true, Z5, decide_eq_true_eq];rcases ha with rfl | ha
  ·exact .inr rfl
  ·exact .inl (.inr ha)
 refine ⟨hs, fun a b hab => ?_⟩
 induction hab with
 | one h =>
  obtain ⟨p, hp, e1, e2⟩ := h;have := key p hp p.1.toNat (.inl rfl);rwa [e1, e2] at this
 | more _ h ih =>
  obtain ⟨p, hp, e1, e2⟩ := h;have := key p hp _ (.inr (by rw [e1]; exact ih));rwa [e2] at this
theorem Clo.uniq {n be out out'} (hv : Val n be) (h : Clo n be out) (h' : Clo n be out') : out = out' := by
 apply List.ext_getElem (by rw [h.len, h'.len]);intro b h1 h2;rw [<- Ze h1, <- Ze h2];apply Nat.eq_of_testBit_eq;intro a;rw [Bool.eq_iff_iff];rw [h.len] at h1;exact ⟨fun e => h'.cmp a b (h.snd a b h1 e), fun e => h.cmp a b (h'.snd a b h1 e)⟩
theorem Snd.bound {n be out} (hs : Snd n be out) : tot out <= n * pw n := by
 have := ZjF out (pw n) fun i hi => hs.lt i (by rw [<- hs.len]; exact hi);rwa [hs.len] at this
theorem ZjY {n be} (hv : Val n be) : ∀ (k : Nat) (out : List Nat), Snd n be out -> n * pw n - tot out < k -> ∃ out', Clo n be out'
 | 0, out, _, h => by omega
 | k + 1, out, hs, h => by
  by_cases he : tot (pas out be) = tot out
  ·exact ⟨out, hs.clo hv he⟩
  ·have hp := hs.rnd hv be fun _ h => h;have := hp.bound;have := (Qm hv be out (fun _ h => h) hs).1;exact ZjY hv k (pas out be) hp (by omega)
noncomputable def QN (n : Nat) (be : List (Int × Int)) : List Nat := open Classical in if h : ∃ out, Clo n be out then h.choose else []
theorem Q6 {n be} (hv : Val n be) : Clo n be (QN n be) := by
 have h := ZjY hv _ (List.replicate n 0) (Snd.zero n be) (Nat.lt_succ_self _);rw [QN, dif_pos h];exact h.choose_spec
theorem Zhb {n be out} (hv : Val n be) (h : Clo n be out) : QN n be = out := (Q6 hv).uniq hv h
theorem Zay {n be} (hv : Val n be) (a b : Nat) (hb : b < n) : (nth (QN n be) b).testBit a = true ↔ Ch be a b :=
 ⟨(Q6 hv).snd a b hb, (Q6 hv).cmp a b⟩
theorem ZcE {s b : Nat} (h : s.testBit b = false) (j : Nat) : (s + pw b).testBit j = (s.testBit j || decide (b = j)) := by
 have e1 : s = 2 ^ (b + 1) * (s / 2 ^ (b + 1)) + s % 2 ^ (b + 1) := (Nat.div_add_mod _ _).symm;have e2 : s % 2 ^ (b + 1) < 2 ^ (b + 1) := Nat.mod_lt _ (Nat.two_pow_pos _)
 have e3 : s % 2 ^ (b + 1) < 2 ^ b := by
  rw [Nat.testBit_eq_decide_div_mod_eq] at h;simp at h
  have h1 : s % 2 ^ (b + 1) = s % 2 ^ b + 2 ^ b * (s / 2 ^ b % 2) := by rw [Nat.pow_succ, Nat.mod_mul]
  rw [h1, h, Nat.mul_zero, Nat.add_zero];exact Nat.mod_lt _ (Nat.two_pow_pos _)
 generalize s / 2 ^ (b + 1) = q at e1;generalize s % 2 ^ (b + 1) = r at e1 e2 e3
 have hp : 2 ^ (b + 1) = 2 ^ b + 2 ^ b := by rw [Nat.pow_succ]; omega
 have e4 : s + pw b = 2 ^ (b + 1) * q + (2 ^ b * 1 + r) := by rw [e1, pw]; omega
 rw [e4, Nat.testBit_two_pow_mul_add _ (by omega), e1, Nat.testBit_two_pow_mul_add _ e2]
 by_cases hj : j < b + 1
 ·simp only [hj, if_true];rw [Nat.testBit_two_pow_mul_add _ e3]
  by_cases hj2 : j < b
  ·have : ¬ b = j := by omega
   simp [hj2, this]
  ·have : j = b := by omega
   subst this;simp
 ·have : ¬ b = j := by omega
  simp [hj, this]
def XW (p : Nat -> Bool) : Nat -> Nat
 | 0 => 0
 | k + 1 => if p k then XW p k + pw k else XW p k
theorem Yv (p : Nat -> Bool) : ∀ k, XW p k < pw k
 | 0 => by simp [XW, pw]
 | k + 1 => by
  have := Yv p k;have := WV k;simp only [XW]
  split <;> omega
theorem YJ (p : Nat -> Bool) : ∀ k j, (XW p k).testBit j = (decide (j < k) && p j)
 | 0, j => by simp [XW]
 | k + 1, j => by
  have hb : (XW p k).testBit k = false := Nat.testBit_lt_two_pow (Yv p k);simp only [XW]
  split
  ·rename_i hp;rw [ZcE hb, YJ p k j]
   by_cases hj : k = j
   ·subst hj; simp [hp]
   ·have : decide (j < k + 1) = decide (j < k) := by simp only [decide_eq_decide]; omega
    simp [hj, this]
  ·rename_i hp;rw [YJ p k j]
   by_cases hj : k = j
   ·subst hj; simp [hp]
   ·have : decide (j < k + 1) = decide (j < k) := by simp only [decide_eq_decide]; omega
    simp [this]
theorem ZbU {p : Nat -> Bool} {k x : Nat} (h : x < pw k) (hb : ∀ j, j < k -> x.testBit j = p j) : x = XW p k := by
 apply Nat.eq_of_testBit_eq;intro j;rw [YJ]
 by_cases hj : j < k
 ·simp [hj, hb j hj]
 ·have : x < 2 ^ j := Nat.lt_of_lt_of_le h (Z3 (by omega));simp [hj, Nat.testBit_lt_two_pow this]
def pc (s : Nat) : Nat -> Nat
 | 0 => 0
 | k + 1 => pc s k + if s.testBit k then 1 else 0
theorem ZgZ (s : Nat) : ∀ k, pc s k <= k
 | 0 => by simp [pc]
 | k + 1 => by have := ZgZ s k; simp only [pc]; split <;> omega
theorem Q7 {s b : Nat} (h : s.testBit b = false) : ∀ k, pc (s + pw b) k = pc s k + if b < k then 1 else 0
 | 0 => by simp [pc]
 | k + 1 => by
  simp only [pc, Q7 h k, ZcE h]
  by_cases hb : b = k
  ·subst hb; simp [h]
  ·have : (b < k + 1) = (b < k) := by simp only [eq_iff_iff]; omega
   simp only [hb, decide_false, Bool.or_false, this];omega
def J5 (fr s : Nat) (p : Int × Int) : Nat := if (p.1.toNat = fr \/ s.testBit p.1.toNat = true) /\ s.testBit p.2.toNat = false then s + pw p.2.toNat else s
def Ka (fr s : Nat) (l : List (Int × Int)) : Nat := l.foldl (J5 fr) s
def JW (fr : Nat) (be : List (Int × Int)) : Nat -> Nat
 | 0 => 0
 | k + 1 => Ka fr (JW fr be k) be
def cls (fr s : Nat) (p : Int × Int) : Prop := (p.1.toNat = fr \/ s.testBit p.1.toNat = true) -> s.testBit p.2.toNat = true
structure RSnd (n fr : Nat) (be : List (Int × Int)) (s : Nat) : Prop where
 lt : s < pw n
 snd : ∀ j, s.testBit j = true -> Ch be fr j
theorem RSnd.step {n fr be s p} (hv : Val n be) (hs : RSnd n fr be s) (hp : p ∈ be) : RSnd n fr be (J5 fr s p) := by
 obtain ⟨h1, h2, h3, h4⟩ := hv p hp;unfold J5
 split
 ·rename_i h;obtain ⟨ha, hb⟩ := h
  have hbits : ∀ j, (s + pw p.2.toNat).testBit j = true -> Ch be fr j := fun j hj => by
   rw [ZcE hb] at hj;simp only [Bool.or_eq_true, decide_eq_true_eq] at hj;rcases hj with hj | rfl
   ·exact hs.snd j hj
   ·have hE : Ed be p.1.toNat p.2.toNat := ⟨p, hp, by omega, by omega⟩;rcases ha with ha | ha
    ·rw [<- ha]; exact .one hE
    ·exact (hs.snd _ ha).more hE
  refine ⟨?_, hbits⟩;apply Nat.lt_of_not_le;intro hle;obtain ⟨j, hj, hj2⟩ := Nat.exists_ge_and_testBit_of_ge_two_pow hle;have := (hbits j hj2).lt hv;omega
 ·exact hs
theorem RSnd.pas {n fr be} (hv : Val n be) : ∀ (l : List (Int × Int)) {s}, RSnd n fr be s -> (∀ p ∈ l, p ∈ be) -> RSnd n fr be (Ka fr s l)
 | [], s, hs, _ => hs
 | p :: l, s, hs, h => RSnd.pas hv l (hs.step hv (h p (by simp))) fun q hq => h q (by simp [hq])
theorem RSnd.rnd {n fr be} (hv : Val n be) : ∀ k, RSnd n fr be (JW fr be k)
 | 0 => ⟨Um n, fun j h => by simp [JW] at h⟩
 | k + 1 => (RSnd.rnd hv k).pas hv be fun _ h => h
theorem KA {n fr : Nat} : ∀ (l : List (Int × Int)) (s : Nat), (∀ p ∈ l, p.2.toNat < n) -> pc s n <= pc (Ka fr s l) n /\ ((Ka fr s l = s /\ ∀ p ∈ l, cls fr s p) \/ pc s n + 1 <= pc (Ka fr s l) n)
 | [], s, _ => ⟨Nat.le_refl _, .inl ⟨rfl, fun p h => by simp at h⟩⟩
 | p :: l, s, h => by
  have ih := KA (n := n) (fr := fr) l (J5 fr s p) fun q hq => h q (by simp [hq]);have hp := h p (by simp);have e : Ka fr s (p :: l) = Ka fr (J5 fr s p) l := rfl;rw [e]
  by_cases hc : (p.1.toNat = fr \/ s.testBit p.1.toNat = true) /\ s.testBit p.2.toNat = false
  ·have e1 : J5 fr s p = s + pw p.2.toNat := by simp [J5, hc]
   have e2 := Q7 hc.2 n;rw [e1] at ih ⊢;simp only [hp, if_true] at e2;exact ⟨by omega, .inr (by omega)⟩
  ·have e1 : J5 fr s p = s := by simp [J5, hc]
   rw [e1] at ih ⊢;refine ⟨ih.1, ?_⟩;rcases ih.2 with ⟨i1, i2⟩ | i1
   ·refine .inl ⟨i1, fun q hq => ?_⟩;rcases List.mem_cons.1 hq with rfl | hq
    ·intro ha
     cases hb : s.testBit q.2.toNat with
     | true => rfl
     | false => exact absurd ⟨ha, hb⟩ hc
    ·exact i2 q hq
   ·exact .inr i1
theorem ZbO {fr : Nat} : ∀ (l : List (Int × Int)) (s : Nat), (∀ p ∈ l, cls fr s p) -> Ka fr s l = s
 | [], s, _ => rfl
 | p :: l, s, h => by
  have e1 : J5 fr s p = s := by
   unfold J5
   split
   ·rename_i hc;have := h p (by simp) hc.1;rw [hc.2] at this; cases this
   ·rfl
  show Ka fr (J5 fr s p) l = s
  rw [e1];exact ZbO l s fun q hq => h q (by simp [hq])
theorem Zat {n fr : Nat} {be : List (Int × Int)} (hv : Val n be) : ∀ k, (∀ p ∈ be, cls fr (JW fr be k) p) \/ k <= pc (JW fr be k) n
 | 0 => .inr (Nat.zero_le _)
 | k + 1 => by
  rcases Zat (fr := fr) hv k with h | h
  ·left
   show ∀ p ∈ be, cls fr (Ka fr (JW fr be k) be) p
   rw [ZbO be _ h]; exact h
  ·obtain ⟨_, h2⟩ := KA (n := n) (fr := fr) be (JW fr be k) fun p hp => by have := hv p hp; omega
   rcases h2 with ⟨h2, h3⟩ | h2
   ·left
    show ∀ p ∈ be, cls fr (Ka fr (JW fr be k) be) p
    rw [h2]; exact h3
   ·right
    show k + 1 <= pc (Ka fr (JW fr be k) be) n
    omega
noncomputable def rch (n : Nat) (be : List (Int × Int)) (fr : Nat) : Nat := XW (fun b => (nth (QN n be) b).testBit fr) n
theorem ZqS (n be fr) : rch n be fr < pw n := Yv _ _
theorem Zmh (n be fr j) : (rch n be fr).testBit j = (decide (j < n) && (nth (QN n be) j).testBit fr) := YJ _ _ _
theorem Zhq {n fr : Nat} {be : List (Int × Int)} (hv : Val n be) : JW fr be (n + 1) = rch n be fr := by
 have hs := RSnd.rnd (fr := fr) hv (n + 1)
 have hcl : ∀ p ∈ be, cls fr (JW fr be (n + 1)) p := by
  rcases Zat (fr := fr) hv (n + 1) with h | h
  ·exact h
  ·have := ZgZ (JW fr be (n + 1)) n;omega
 refine ZbU hs.lt fun j hj => ?_;rw [Bool.eq_iff_iff, Zay hv fr j hj];refine ⟨hs.snd j, fun h => ?_⟩;clear hj
 induction h with
 | one h =>
  obtain ⟨p, hp, e1, e2⟩ := h;have := hcl p hp (.inl (by omega));rwa [e2, Int.toNat_natCast] at this
 | more _ h ih =>
  obtain ⟨p, hp, e1, e2⟩ := h;have := hcl p hp (.inr (by rw [e1, Int.toNat_natCast]; exact ih));rwa [e2, Int.toNat_natCast] at this
end Go.Proofs.YtcdoglogglbemaaGreatDoor.K
