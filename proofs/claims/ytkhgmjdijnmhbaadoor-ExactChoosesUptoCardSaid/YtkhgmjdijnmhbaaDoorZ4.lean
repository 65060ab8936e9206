/- Declarations that the closing texts need, part 4: joined by tools/slim.py. -/
import Derived.Test.YtkhgmjdijnmhbaaDoorZ3
set_option linter.unusedVariables false
set_option linter.unusedSimpArgs false
universe u
namespace Go.AM
open Go.RowKit
structure Tk {α : Sort u} (a : α) : Type where
def Zs {α : Sort u} (a : α) (_ : Tk a) : α := a
@[go_sem] theorem ZgL {α β : Type} {f : α -> β} {t x} : Zs f t x = f x := Eq.trans rfl rfl
@[go_sem ↓] theorem Zhm {α β : Type} {f : α -> β -> Prop} {t x y} : Zs f t x y = f x y := Eq.trans rfl rfl
@[go_sem ↓] theorem Zhu {α β γ : Type} {f : α -> β -> γ -> Prop} {t x y z} : Zs f t x y z = f x y z := Eq.trans rfl rfl
def pst (x : Option V) (K : V -> Prop) : Prop := match x with | some v => K v | none => False
def mst (x : Option (V × List Obj)) (K : V -> List Obj -> Prop) : Prop := match x with | some (v, H) => K v H | none => False
def bst (x : V) (K : Bool -> Prop) : Prop := match x with | .p (.bool b) => K b | _ => False
def hst (x : Option (List Obj)) (K : List Obj -> Prop) : Prop := match x with | some H => K H | none => False
@[go_sem ↓, go_sem] theorem ZjQ {v K} : pst (some v) K = K v := Eq.trans rfl rfl
@[go_sem ↓, go_sem] theorem ZjX {v H K} : mst (some (v, H)) K = K v H := Eq.trans rfl rfl
@[go_sem ↓, go_sem] theorem Zln {H K} : hst (some H) K = K H := Eq.trans rfl rfl
@[congr] theorem ZgK {x x' K} (h : x = x') : pst x K = pst x' K := by rw [h]
@[congr] theorem Zit {x x' K} (h : x = x') : mst x K = mst x' K := by rw [h]
@[congr] theorem ZiC {x x' K} (h : x = x') : hst x K = hst x' K := by rw [h]
def idF (fr : List V) : List V := fr
@[go_sem] theorem ZpD {fr} : idF fr = fr := Eq.trans rfl rfl
section code
variable {cuts : List Nat} {P : Program} {fr : List V} {H : List Obj} {Q : Exit -> List V -> List Obj -> Prop}
@[go_sem ↓] theorem ZgO : awp cuts P .skip fr H Q = Q .normal fr H := Eq.trans rfl rfl
@[go_sem ↓] theorem ZeW {id} {l : List Oper} : awp cuts P (.region id l.toArray false) fr H Q = XP P (l.map (·.dst)) l (idF fr) H (Zs (Q .normal) ⟨⟩) := by simp [awp, idF, Zs]
@[go_sem ↓] theorem Zgb {id ops} : awp cuts P (.region id ops true) fr H Q = AWP P (.region id (Zs ops ⟨⟩) true) fr H (Zs Q ⟨⟩) := by simp [awp, Zs]
@[go_sem ↓] theorem Zk3 {x y} : awp [] P (.seq x y) fr H Q = awp [] P x fr H (Wl (fun fr H => awp [] P y fr H Q) Q) := by
 rw [awp]; cases hid x <;> simp
def Zds (b : Bool) (A B : Prop) : Prop := if b then A else B
def JA (cuts : List Nat) : Option Nat -> Bool
 | some i => cuts.contains i
 | none => false
@[go_sem ↓] theorem ZhL {k x y} : awp (k :: cuts) P (.seq x y) fr H Q = Zds (JA (k :: cuts) (hid x)) (Zs (AWP P (.seq (Zs x ⟨⟩) (Zs y ⟨⟩)) fr H (Zs Q ⟨⟩)) ⟨⟩) (Zs (awp (k :: cuts) P x fr H (Wl (fun fr H => awp (k :: cuts) P y fr H Q) Q)) ⟨⟩) := by
 rw [awp]; cases hid x <;> simp [Zds, JA, Zs]
@[go_sem ↓, go_sem] theorem Zig {A B : Prop} {t} : Zds true (Zs A t) B = A := by simp [Zds, Zs]
@[go_sem ↓, go_sem] theorem Zgo {A B : Prop} {t} : Zds false A (Zs B t) = B := by simp [Zds, Zs]
theorem K0 {b b' A B} (h : b = b') : Zds b A B = Zds b' A B := by rw [h]
@[go_sem ↓] theorem Zgh {id ops d} : hid (.region id ops d) = some id := Eq.trans rfl rfl
@[go_sem ↓] theorem ZnB {x y} : hid (.seq x y) = hid x := Eq.trans rfl rfl
@[go_sem ↓] theorem ZiQ {id c} : hid (.block id c) = hid c := Eq.trans rfl rfl
@[go_sem ↓] theorem ZjO {c x y} : hid (.cond c x y) = none := Eq.trans rfl rfl
@[go_sem ↓] theorem ZkR {c} : hid (.loop c) = none := Eq.trans rfl rfl
@[go_sem] theorem Zgm : JA cuts none = false := Eq.trans rfl rfl
@[go_sem] theorem Zhx {i} : JA [] (some i) = false := Eq.trans rfl rfl
@[go_sem] theorem Zgs {k i} : JA (k :: cuts) (some i) = (decide (i = k) || JA cuts (some i)) := by by_cases h : i = k <;> simp [JA, h]
@[go_sem ↓] theorem ZiO {c x y} : awp cuts P (.cond c x y) fr H Q = YO (ev fr c) (Zs (awp cuts P x fr H Q) ⟨⟩) (Zs (awp cuts P y fr H Q) ⟨⟩) := Eq.trans rfl rfl
@[go_sem ↓] theorem ZfV {id c} : awp cuts P (.block id c) fr H Q = awp cuts P c fr H (YG id Q) := Eq.trans rfl rfl
@[go_sem ↓] theorem Zjj {id} : awp cuts P (.exit id) fr H Q = Q (.exit id) fr H := Eq.trans rfl rfl
@[go_sem ↓] theorem Zkg : awp cuts P .ret fr H Q = Q .ret fr H := Eq.trans rfl rfl
@[go_sem ↓] theorem ZhO {c} : awp cuts P (.loop c) fr H Q = AWP P (.loop (Zs c ⟨⟩)) fr H (Zs Q ⟨⟩) := Eq.trans rfl rfl
@[go_sem ↓] theorem Zhr {c t} : awp cuts P (Zs c t) fr H Q = awp cuts P c fr H Q := Eq.trans rfl rfl
theorem Zbg {c fr' H'} (h : fr = fr') (h2 : H = H') : awp cuts P c fr H Q = awp cuts P c fr' H' Q := by rw [h, h2]
theorem ZaW {c fr' H'} (h : fr = fr') (h2 : H = H') : AWP P c fr H Q = AWP P c fr' H' Q := by rw [h, h2]
@[go_sem ↓] theorem ZdK {A : List V -> List Obj -> Prop} : Wl A Q .normal fr H = A fr H := Eq.trans rfl rfl
@[go_sem ↓] theorem Zgk {A : List V -> List Obj -> Prop} {id} : Wl A Q (.exit id) fr H = Q (.exit id) fr H := Eq.trans rfl rfl
@[go_sem ↓] theorem Zh0 {A : List V -> List Obj -> Prop} : Wl A Q .ret fr H = Q .ret fr H := Eq.trans rfl rfl
@[go_sem ↓] theorem ZcV {id} : YG id Q .normal fr H = Q .normal fr H := Eq.trans rfl rfl
@[go_sem ↓] theorem Zgt {id} : YG id Q .ret fr H = Q .ret fr H := Eq.trans rfl rfl
@[go_sem ↓] theorem ZeL {id id'} : YG id Q (.exit id') fr H = if id' = id then Q .normal fr H else Q (.exit id') fr H := Eq.trans rfl rfl
theorem Jv {A : List V -> List Obj -> Prop} {e fr' H'} (h : fr = fr') (h2 : H = H') : Wl A Q e fr H = Wl A Q e fr' H' := by rw [h, h2]
theorem QH {id e fr' H'} (h : fr = fr') (h2 : H = H') : YG id Q e fr H = YG id Q e fr' H' := by rw [h, h2]
@[go_sem ↓] theorem ZfE {rs} {Q : V -> List Obj -> Prop} : JB P rs Q .normal fr H = mst ((Xe P fr H rs).map fun xs => (Yy xs, H)) (Zs Q ⟨⟩) := by
 simp only [JB, Zs]; split <;> simp_all [mst]
@[go_sem ↓] theorem Zlg {rs} {Q : V -> List Obj -> Prop} : JB P rs Q .ret fr H = mst ((Xe P fr H rs).map fun xs => (Yy xs, H)) (Zs Q ⟨⟩) := by
 simp only [JB, Zs]; split <;> simp_all [mst]
theorem KC {rs e fr' H'} {Q : V -> List Obj -> Prop} (h : fr = fr') (h2 : H = H') : JB P rs Q e fr H = JB P rs Q e fr' H' := by rw [h, h2]
@[go_sem] theorem ZfO : Xe P fr H [] = some [] := Eq.trans rfl rfl
@[go_sem] theorem ZfT {t l} : Xe P fr H (.tmp t :: l) = (Xe P fr H l).map (gt fr t :: ·) := by
 simp only [Xe, Zgl]; cases Xe P fr H l <;> rfl
@[go_sem] theorem Zet {a t l} : Xe P fr H (.cell a t :: l) = (Wr P H t (gt fr a)).bind fun x => (Xe P fr H l).map (x :: ·) := by
 simp only [Xe, Zgl]; cases Wr P H t (gt fr a) <;> cases Xe P fr H l <;> rfl
@[go_sem] theorem ZfP {x} : Yy [x] = x := Eq.trans rfl rfl
@[go_sem] theorem ZeM : Yy [] = .tup [] := Eq.trans rfl rfl
@[go_sem] theorem KO {x y l} : Yy (x :: y :: l) = .tup (x :: y :: l) := Eq.trans rfl rfl
end code
attribute [congr] K0 Zbg ZaW Jv QH KC
@[go_sem] theorem Zoo {x : V} {l} : gt (x :: l) 0 = x := Eq.trans rfl rfl
@[go_sem] theorem Zoe {x : V} {l n} : gt (x :: l) (n + 1) = gt l n := Eq.trans rfl rfl
@[go_sem] theorem Zph {n} : gt [] n = .junk := Eq.trans rfl rfl
@[go_sem] theorem ZlY {x v : V} {l} : pt (x :: l) 0 v = v :: l := Eq.trans rfl rfl
@[go_sem] theorem Znb {x v : V} {l n} : pt (x :: l) (n + 1) v = x :: pt l n v := Eq.trans rfl rfl
@[go_sem] theorem ZlN {fr d v} : ptO fr (some d) v = pt fr d v := Eq.trans rfl rfl
@[go_sem] theorem Zj8 {fr v} : ptO fr none v = fr := Eq.trans rfl rfl
@[go_sem] theorem Zkl {x : Obj} {l} : oat (x :: l) 0 = x := Eq.trans rfl rfl
@[go_sem] theorem Zkh {x : Obj} {l n} : oat (x :: l) (n + 1) = oat l n := Eq.trans rfl rfl
@[go_sem] theorem ZlA {x v : Obj} {l} : ost (x :: l) 0 v = v :: l := Eq.trans rfl rfl
@[go_sem] theorem ZkY {x v : Obj} {l n} : ost (x :: l) (n + 1) v = x :: ost l n v := Eq.trans rfl rfl
@[go_sem] theorem Zma {fr t} : evx fr (.tmp t) = gt fr t := Eq.trans rfl rfl
@[go_sem] theorem Zf8 {fr g} : evx fr (.global g) = ZhE g := Eq.trans rfl rfl
@[go_sem] theorem ZpH {fr t} : ev fr (.tmp t) = gt fr t := Eq.trans rfl rfl
@[go_sem] theorem ZmC {fr f} : ev fr (.func f) = .fn (.func f) [] [] := Eq.trans rfl rfl
@[go_sem] theorem ZoP {fr k n} : ev fr (.const (.int k n)) = .p (.int k n) := Eq.trans rfl rfl
@[go_sem] theorem Zl3 {fr b} : ev fr (.const (.bool b)) = .p (.bool b) := Eq.trans rfl rfl
@[go_sem] theorem ZpI {fr s} : ev fr (.const (.string s)) = .p (.str s.data.toList) := Eq.trans rfl rfl
@[go_sem] theorem Zog {fr} : ev fr (.const (.slice none 0 0)) = .p (.list true []) := Eq.trans rfl rfl
@[go_sem] theorem Znx {fr} : ev fr (.const (.pointer none)) = .p .nilp := Eq.trans rfl rfl
@[go_sem] theorem ZoV {fr l} : ev fr (.const (.agg (List.toArray l))) = match cvs l with | some xs => .p (.agg xs) | none => .junk := Eq.trans rfl rfl
@[go_sem] theorem Zk8 {fr d} {l : List (Option Nat)} : gAt fr (some d :: l) 0 = gt fr d := by simp [gAt]
@[go_sem] theorem Zjs {fr o n} {l : List (Option Nat)} : gAt fr (o :: l) (n + 1) = gAt fr l n := by simp [gAt]
section ops
variable {P : Program} {fr : List V} {H : List Obj} {ds : List (Option Nat)} {K : List V -> List Obj -> Prop} {r : List Oper} {d : Option Nat} {t : TypeId} {ps : String} {af : Array Edge} {g : Option (Nat × Bool)} {k : V -> List Obj -> Prop}
theorem Kz {l fr' H'} (h : fr = fr') (h2 : H = H') : XP P ds l fr H K = XP P ds l fr' H' K := by rw [h, h2]
theorem Je {o fr' H'} (h : fr = fr') (h2 : H = H') : Zl P o fr H k = Zl P o fr' H' k := by rw [h, h2]
@[go_sem ↓] theorem Zk5 : XP P ds [] fr H K = K fr H := Eq.trans rfl rfl
@[go_sem] theorem ZgW {op} : XP P ds (⟨d, op, t, ps, af, none⟩ :: r) fr H K = Zl P ⟨d, op, t, ps, af, none⟩ fr H (Zs (fun x H' => XP P ds r (ptO fr d x) H' K) ⟨⟩) := Eq.trans rfl rfl
@[go_sem] theorem Zgf {op j b} : XP P ds (⟨d, op, t, ps, af, some (j, b)⟩ :: r) fr H K = ZN (gAt fr ds j) b (Zs (Zl P ⟨d, op, t, ps, af, none⟩ fr H (Zs (fun x H' => XP P ds r (ptO fr d x) H' K) ⟨⟩)) ⟨⟩) (Zs (XP P ds r (ptO fr d (.tup [])) H K) ⟨⟩) := by
 simp only [XP, Zs];unfold ZN
 split <;> rfl
theorem Zx {op : Op} (h : Z8 op = none) (h2 : Wg P op fr H = none) : Zl P ⟨d, op, t, ps, af, g⟩ fr H k = pst (Zv P op fr H) fun x => k x H := by
 simp only [Zl, h, aop, h2]
 all_goals (cases Zv P op fr H <;> rfl)
theorem Xm {op : Op} (h : Z8 op = none) (h2 : Zv P op fr H = none) : Zl P ⟨d, op, t, ps, af, g⟩ fr H k = mst (Wg P op fr H) k := by
 simp only [Zl, h, aop, h2, mst]
 all_goals (cases Wg P op fr H <;> rfl)
@[go_sem ↓] theorem Zf7 {x} : Zl P ⟨d, .move x, t, ps, af, g⟩ fr H k = k (ev fr x) H := by rw [Zx rfl rfl]; rfl
@[go_sem ↓] theorem ZdD {x} : Zl P ⟨d, .assign x, t, ps, af, g⟩ fr H k = k (ev fr x) H := by rw [Zx rfl rfl]; rfl
def vif (b : Bool) (x y : V) : V := if b then x else y
@[go_sem] theorem Zj1 {x y} : vif true x y = x := Eq.trans rfl rfl
@[go_sem] theorem Zif {x y} : vif false x y = y := Eq.trans rfl rfl
@[go_sem] theorem Zlb {b x y} : vif b (.p (.bool x)) (.p (.bool y)) = .p (.bool (if b then x else y)) := by cases b <;> rfl
@[go_sem] theorem Zkt {b} : asB (.p (.bool b)) = some b := Eq.trans rfl rfl
@[go_sem ↓] theorem Zf0 {c x y} : Zl P ⟨d, .pick c x y, t, ps, af, g⟩ fr H k = pst ((asB (ev fr c)).map fun b => vif b (ev fr x) (ev fr y)) (Zs (fun v => k v H) ⟨⟩) := by
 rw [Zx rfl rfl];simp only [Zv, ZX]
 cases asB (ev fr c) <;> rfl
@[go_sem ↓] theorem ZfR {u x} : Zl P ⟨d, .load u x, t, ps, af, g⟩ fr H k = pst (Wr P H u (ev fr x)) (Zs (fun v => k v H) ⟨⟩) := by rw [Zx rfl rfl]; rfl
@[go_sem ↓] theorem Zb2 {x} : Zl P ⟨d, .nilCheck x, t, ps, af, g⟩ fr H k = pst (if Xs H (ev fr x) || Zhv (ev fr x) then some (ev fr x) else none) (Zs (fun v => k v H) ⟨⟩) := by rw [Zx rfl rfl]; rfl
@[go_sem ↓] theorem ZgA {op u x y u2} : Zl P ⟨d, .binOp op u x y u2, t, ps, af, g⟩ fr H k = pst ((XM P op u (ev fr x) (ev fr y)).map .p) (Zs (fun v => k v H) ⟨⟩) := by rw [Zx rfl rfl]; rfl
@[go_sem ↓] theorem ZjN {op u x} : Zl P ⟨d, .unOp op u x, t, ps, af, g⟩ fr H k = pst ((aun op (ev fr x)).map .p) (Zs (fun v => k v H) ⟨⟩) := by rw [Zx rfl rfl]; rfl
def ZeY (x y : Option PV) : Option PV := match x with | some z => some z | none => y
@[go_sem] theorem ZfU {z y} : ZeY (some z) y = some z := Eq.trans rfl rfl
@[go_sem] theorem ZfG {y} : ZeY none y = y := Eq.trans rfl rfl
@[go_sem ↓] theorem ZfW {s u x} : Zl P ⟨d, .convert s u x, t, ps, af, g⟩ fr H k = pst ((ZeY (V1 P H s u (ev fr x)) (Zav P s u (ev fr x))).map .p) (Zs (fun v => k v H) ⟨⟩) := by
 rw [Zx rfl rfl];simp only [Zv, ZX]
 cases V1 P H s u (ev fr x) <;> rfl
@[go_sem ↓] theorem ZbW {f cs es} : Zl P ⟨d, .makeFunc f (List.toArray cs) (List.toArray es), t, ps, af, g⟩ fr H k = k (.fn f (cs.map (ev fr)) (es.map (ev fr))) H := by rw [Zx rfl rfl]; rfl
@[go_sem ↓] theorem ZfA {u x lo hi mx} : Zl P ⟨d, .slice u x lo hi mx, t, ps, af, g⟩ fr H k = pst (Vh P H u fr (ev fr x) lo hi mx) (Zs (fun v => k v H) ⟨⟩) := by rw [Zx rfl rfl]; rfl
@[go_sem ↓] theorem Zai {s x f} : Zl P ⟨d, .fieldAddr s x f, t, ps, af, g⟩ fr H k = pst (YV P H s f (ev fr x)) (Zs (fun v => k v H) ⟨⟩) := by rw [Zx rfl rfl]; rfl
@[go_sem ↓] theorem Zbk {u x i} : Zl P ⟨d, .indexAddr u x i, t, ps, af, g⟩ fr H k = pst (YE P H u (evx fr x) (ev fr i)) (Zs (fun v => k v H) ⟨⟩) := by rw [Zx rfl rfl]; rfl
@[go_sem ↓] theorem ZfB {u x i} : Zl P ⟨d, .index u x i, t, ps, af, g⟩ fr H k = pst (Za8 P u (ev fr x) (ev fr i)) (Zs (fun v => k v H) ⟨⟩) := by rw [Zx rfl rfl]; rfl
def axt (x : V) (i : Nat) : Option V := match x with | .tup vs => vs[i]? | _ => none
@[go_sem] theorem Zm8 {vs i} : axt (.tup vs) i = vs[i]? := Eq.trans rfl rfl
@[go_sem ↓] theorem Zc4 {x i} : Zl P ⟨d, .extract x i, t, ps, af, g⟩ fr H k = pst (axt (ev fr x) i) (Zs (fun v => k v H) ⟨⟩) := by
 rw [Zx rfl rfl];simp only [Zv, ZX]
 cases ev fr x <;> rfl
@[go_sem ↓] theorem ZeB {u l} : Zl P ⟨d, .build u (List.toArray l), t, ps, af, g⟩ fr H k = pst (Qu P H u (l.map fun x => (x.1, ev fr x.2))) (Zs (fun v => k v H) ⟨⟩) := by rw [Zx rfl rfl]; rfl
@[go_sem ↓] theorem Zi7 {x u} : Zl P ⟨d, .call ⟨.builtin .len, #[x], #[u]⟩, t, ps, af, g⟩ fr H k = pst ((Zh8 P H u (ev fr x)).map .p) (Zs (fun v => k v H) ⟨⟩) := by rw [Zx rfl rfl]; rfl
@[go_sem ↓] theorem ZeI {u} : Zl P ⟨d, .alloc u, t, ps, af, g⟩ fr H k = mst ((ZR P u).map fun zs => (.ptr H.length 0, H ++ [.cells (zs.map .p)])) (Zs k ⟨⟩) := by rw [Xm rfl rfl]; rfl
@[go_sem ↓] theorem Zjb {u x} : Zl P ⟨d, .box u x, t, ps, af, g⟩ fr H k = mst ((vc H (ev fr x)).map fun cs => (.ptr H.length 0, H ++ [.cells cs])) (Zs k ⟨⟩) := by rw [Xm rfl rfl]; rfl
def Zmj (H : List Obj) (n : Option Nat) (a : V) (cs : Option (List V)) : Option (List Obj) := n.bind fun n => cs.bind fun cs => WI H n a cs
@[go_sem] theorem Zg7 {n a cs} : Zmj H (some n) a (some cs) = WI H n a cs := Eq.trans rfl rfl
@[go_sem ↓] theorem Zen {u x y} : Zl P ⟨d, .store u x y, t, ps, af, g⟩ fr H k = hst (Zmj H (tsz P u) (ev fr x) (vc H (ev fr y))) (Zs (k .junk) ⟨⟩) := by
 rw [Xm rfl rfl];simp only [Wg, Zmj]
 cases tsz P u <;> cases vc H (ev fr y) <;> simp [hst, mst, Zs]
 cases WI H _ (ev fr x) _ <;> rfl
@[go_sem ↓] theorem K7 {u n l} : Zl P ⟨d, .buildSlice u n (List.toArray l), t, ps, af, g⟩ fr H k = mst (Wg P (.buildSlice u n (List.toArray l)) fr H) (Zs k ⟨⟩) := by rw [Xm rfl rfl]; rfl
@[go_sem ↓] theorem ZcO {u} : Zl P ⟨d, .makeMap u none, t, ps, af, g⟩ fr H k = k (.mp H.length) (H ++ [.map []]) := by rw [Xm rfl rfl]; rfl
@[go_sem ↓] theorem Zd7 {u x y ok} : Zl P ⟨d, .lookup u x y ok, t, ps, af, g⟩ fr H k = mst (Jc P H u (ev fr x) (ev fr y) ok) (Zs k ⟨⟩) := by rw [Xm rfl rfl]; rfl
@[go_sem ↓] theorem Zgv {u x y z} : Zl P ⟨d, .mapUpdate u x y z, t, ps, af, g⟩ fr H k = mst (KZ P H u (ev fr x) (ev fr y) (ev fr z)) (Zs k ⟨⟩) := by rw [Xm rfl rfl]; rfl
@[go_sem ↓] theorem ZdG {x y u u2} : Zl P ⟨d, .call ⟨.builtin .append, #[x, y], #[u, u2]⟩, t, ps, af, g⟩ fr H k = mst (UG P H u u2 (ev fr x) (ev fr y)) (Zs k ⟨⟩) := by rw [Xm rfl rfl]; rfl
@[go_sem ↓] theorem Zgw {f azs ts} : Zl P ⟨d, .call ⟨.value f, List.toArray azs, ts⟩, t, ps, af, g⟩ fr H k = Jy P (ev fr f) (azs.map (ev fr)) H (Zs k ⟨⟩) := Eq.trans rfl rfl
@[go_sem ↓] theorem Zlq {f fs cs azs} : Jy P (.fn (.func f) fs cs) azs H k = ACalls P f (fs ++ azs ++ cs) H k := Eq.trans rfl rfl
theorem QW {f f' azs as'} (h : f = f') (h2 : azs = as') : Jy P f azs H k = Jy P f' as' H k := by rw [h, h2]
theorem UX {f azs as' H'} (h2 : azs = as') (h3 : H = H') : ACalls P f azs H k = ACalls P f as' H' k := by rw [h2, h3]
theorem Q9 {x x' A B} (h : x = x') : YO x A B = YO x' A B := by rw [h]
theorem UJ {x x' b A B} (h : x = x') : ZN x b A B = ZN x' b A B := by rw [h]
@[go_sem ↓, go_sem] theorem Zgi {A : Prop} {t B'} : YO (.p (.bool true)) (Zs A t) B' = A := by simp [YO, Zs]
@[go_sem ↓, go_sem] theorem ZeD {B : Prop} {t B'} : YO (.p (.bool false)) B' (Zs B t) = B := by simp [YO, Zs]
@[go_sem ↓, go_sem] theorem ZgD {A : Prop} {t B} : ZN (.p (.bool true)) true (Zs A t) B = A := by simp [ZN, Zs]
@[go_sem ↓, go_sem] theorem Zip {B : Prop} {t A} : ZN (.p (.bool true)) false A (Zs B t) = B := by simp [ZN, Zs]
@[go_sem ↓, go_sem] theorem ZiH {B : Prop} {t A} : ZN (.p (.bool false)) true A (Zs B t) = B := by simp [ZN, Zs]
@[go_sem ↓, go_sem] theorem ZhW {A : Prop} {t B} : ZN (.p (.bool false)) false (Zs A t) B = A := by simp [ZN, Zs]
@[go_sem ↓, go_sem] theorem Zfq {b} {B : Prop} {t A} : ZN (.tup []) b A (Zs B t) = B := by simp [ZN, Zs]
theorem ZV {c : Bool} {A B : Prop} {t t'} (h1 : c = true -> A) (h2 : c = false -> B) : YO (.p (.bool c)) (Zs A t) (Zs B t') := ⟨h1, h2⟩
theorem ZI {c : Bool} {A B : Prop} {t t'} (h1 : c = true -> A) (h2 : c = false -> B) : ZN (.p (.bool c)) true (Zs A t) (Zs B t') := ⟨h1, fun h => h2 (by simpa using h)⟩
theorem ZJ {c : Bool} {A B : Prop} {t t'} (h1 : c = true -> B) (h2 : c = false -> A) : ZN (.p (.bool c)) false (Zs A t) (Zs B t') := ⟨h2, fun h => h1 (by simpa using h)⟩
class Dc (c : Bool) (p q : outParam Prop) : Prop where
 t : c = true -> p
 f : c = false -> q
instance dcD {p : Prop} [Decidable p] : Dc (decide p) p (¬p) := ⟨of_decide_eq_true, of_decide_eq_false⟩
instance (priority := low) dcB {c : Bool} : Dc c (c = true) (c = false) := ⟨id, id⟩
theorem cD {c : Bool} {A B p q : Prop} {t t'} [d : Dc c p q] (h1 : p -> A) (h2 : q -> B) : YO (.p (.bool c)) (Zs A t) (Zs B t') := ZV (fun h => h1 (d.t h)) (fun h => h2 (d.f h))
theorem gT {c : Bool} {A B p q : Prop} {t t'} [d : Dc c p q] (h1 : p -> A) (h2 : q -> B) : ZN (.p (.bool c)) true (Zs A t) (Zs B t') := ZI (fun h => h1 (d.t h)) (fun h => h2 (d.f h))
theorem gF {c : Bool} {A B p q : Prop} {t t'} [d : Dc c p q] (h1 : p -> B) (h2 : q -> A) : ZN (.p (.bool c)) false (Zs A t) (Zs B t') := ZJ (fun h => h1 (d.t h)) (fun h => h2 (d.f h))
end ops
attribute [congr] Kz Je QW UX Q9 UJ
section vals
variable {P : Program} {H : List Obj} {k : IntKind} {t u : TypeId}
@[go_sem] theorem Zlf {a b} : XM P .add t (.p (.int k a)) (.p (.int k b)) = some (.int k (k.wrap (a + b))) := by simp [XM, VL]
@[go_sem] theorem Zjm {a b} : XM P .sub t (.p (.int k a)) (.p (.int k b)) = some (.int k (k.wrap (a - b))) := by simp [XM, VL]
@[go_sem] theorem ZjV {a b} : XM P .mul t (.p (.int k a)) (.p (.int k b)) = some (.int k (k.wrap (a * b))) := by simp [XM, VL]
@[go_sem] theorem Zla {a b} (h : b ≠ 0) : XM P .quo t (.p (.int k a)) (.p (.int k b)) = some (.int k (k.wrap (a.tdiv b))) := by simp [XM, VL, h]
@[go_sem] theorem ZlF {a b} (h : b ≠ 0) : XM P .rem t (.p (.int k a)) (.p (.int k b)) = some (.int k (a.tmod b)) := by simp [XM, VL, h]
@[go_sem] theorem Zcv {a b} : XM P .and t (.p (.int k a)) (.p (.int k b)) = some (.int k (k.wrap ((BitVec.ofInt k.bits a &&& BitVec.ofInt k.bits b).toNat : Int))) := by simp [XM, VL]
@[go_sem] theorem Za0 {a b} : XM P .or t (.p (.int k a)) (.p (.int k b)) = some (.int k (k.wrap ((BitVec.ofInt k.bits a ||| BitVec.ofInt k.bits b).toNat : Int))) := by simp [XM, VL]
@[go_sem] theorem Zfk {a b} : XM P .andNot t (.p (.int k a)) (.p (.int k b)) = some (.int k (k.wrap ((BitVec.ofInt k.bits a &&& ~~~(BitVec.ofInt k.bits b)).toNat : Int))) := by simp [XM, VL]
@[go_sem] theorem Zj3 {a b} : XM P .eql t (.p (.int k a)) (.p (.int k b)) = some (.bool (decide (a = b))) := by simp [XM, VL]
@[go_sem] theorem Zj7 {a b} : XM P .neq t (.p (.int k a)) (.p (.int k b)) = some (.bool (decide (¬ a = b))) := by simp [XM, VL]
@[go_sem] theorem Zlc {a b} : XM P .lss t (.p (.int k a)) (.p (.int k b)) = some (.bool (decide (a < b))) := by simp [XM, VL]
@[go_sem] theorem Zlm {a b} : XM P .leq t (.p (.int k a)) (.p (.int k b)) = some (.bool (decide (a <= b))) := by simp [XM, VL]
@[go_sem] theorem ZkB {a b} : XM P .gtr t (.p (.int k a)) (.p (.int k b)) = some (.bool (decide (b < a))) := by simp [XM, VL]
@[go_sem] theorem ZlP {a b} : XM P .geq t (.p (.int k a)) (.p (.int k b)) = some (.bool (decide (b <= a))) := by simp [XM, VL]
@[go_sem] theorem Zb4 {a b k'} (h : 0 <= b) : XM P .shl t (.p (.int k a)) (.p (.int k' b)) = some (.int k (k.wrap (a * 2 ^ (min b.toNat k.bits)))) := by simp [XM, VL, show ¬ b < 0 by omega]
@[go_sem] theorem Zlr {a b k'} (h : 0 <= b) : XM P .shr t (.p (.int k a)) (.p (.int k' b)) = some (.int k (a.fdiv (2 ^ (min b.toNat k.bits)))) := by simp [XM, VL, show ¬ b < 0 by omega]
@[go_sem] theorem Zkw {op a b} : XM P op t (.p (.str a)) (.p (.str b)) = ZcH op a b := Eq.trans rfl rfl
@[go_sem] theorem ZlK {a b} : ZcH .eql a b = some (.bool (decide (a = b))) := Eq.trans rfl rfl
@[go_sem] theorem Zky {a b} : ZcH .neq a b = some (.bool (decide (¬ a = b))) := by simp [ZcH]
@[go_sem] theorem Zdp {a b} (h : a.length + b.length <= 9223372036854775807) : ZcH .add a b = some (.str (a ++ b)) := by simp [ZcH, h]
def Zpa (op : BinOp) (u : Option TypeDesc) (a b : Bool) : Option PV := match op, u with
  | .eql, some .bool => some (.bool (a == b))
  | .neq, some .bool => some (.bool (!(a == b)))
  | _, _ => none
end vals
attribute [irreducible] pst mst hst bst
end Go.AM
namespace Go.AM
open Go.RowKit
section vals
variable {P : Program} {H : List Obj} {k : IntKind} {t u : TypeId}
@[go_sem] theorem ZgG {op a b} : XM P op t (.p (.bool a)) (.p (.bool b)) = Zpa op (P.underlying t) a b := Eq.trans rfl rfl
@[go_sem] theorem Zkr {a b} : Zpa .neq (some .bool) a b = some (.bool (!(a == b))) := Eq.trans rfl rfl
def Zpf (g : Bool) (op : BinOp) (r : Option Bool) : Option PV := if g then none else match op with
 | .eql => r.map .bool
 | .neq => r.map fun r => .bool (!r)
 | _ => none
@[go_sem] theorem ZlB {op a b} : XM P op t (.p (.agg a)) (.p (.agg b)) = Zpf (P.eqGuardType P.depth t) op (VJ P 9 t (.agg a) (.agg b)) := Eq.trans rfl rfl
@[go_sem] theorem ZlS {b} : Zpf false .neq (some b) = some (.bool (!b)) := Eq.trans rfl rfl
def ZfC (P : Program) (d : Nat) (t : TypeId) (D : Option TypeDesc) (x y : PV) : Option Bool := match D, x, y with
  | some .bool, .bool a, .bool b => some (a == b)
  | some (.int _), .int k a, .int k' b => if k = k' then some (decide (a = b)) else none
  | some .string, .str a, .str b => some (decide (a = b))
  | some (.struct fs), .agg a, .agg b => if P.stoodInHeld t then none else JI (VJ P d) P fs.toList a b
  | some (.array n e), .agg a, .agg b => match tsz P e with | some m => Zf9 (VJ P d e) P e m n 0 a b | none => none
  | _, _, _ => none
@[go_sem] theorem ZiG {d x y} : VJ P (d + 1) t x y = ZfC P d t (P.underlying t) x y := Eq.trans rfl rfl
@[go_sem] theorem Zg5 {d a b} : ZfC P d t (some .bool) (.bool a) (.bool b) = some (a == b) := Eq.trans rfl rfl
@[go_sem] theorem Zlv {d k0 a b} : ZfC P d t (some (.int k0)) (.int k a) (.int k b) = some (decide (a = b)) := by simp [ZfC]
theorem Jh {d fs a b} (h : P.stoodInHeld t = false) : ZfC P d t (some (.struct fs)) (.agg a) (.agg b) = JI (VJ P d) P fs.toList a b := by simp [ZfC, h]
def ZhN (x y : Option Bool) : Option Bool := x.bind fun p => y.map fun q => p && q
@[go_sem] theorem Zh1 {p q} : ZhN (some p) (some q) = some (p && q) := Eq.trans rfl rfl
def eqP (f : PV -> PV -> Option Bool) (x y : Option PV) : Option Bool := x.bind fun x => y.bind fun y => f x y
@[go_sem] theorem ZjS {f x y} : eqP f (some x) (some y) = f x y := Eq.trans rfl rfl
@[go_sem] theorem Zcu {f a b} : JI f P [] a b = some true := Eq.trans rfl rfl
@[go_sem] theorem ZbB {f fi r a b} : JI f P (fi :: r) a b = if fi.name = "_" then JI f P r a b else ZhN (eqP (f fi.type) (apart P fi.type a fi.offset) (apart P fi.type b fi.offset)) (JI f P r a b) := by
 simp only [JI]
 split
 ·rfl
 ·cases apart P fi.type a fi.offset <;> cases apart P fi.type b fi.offset <;> simp [eqP, ZhN]
  rename_i x y
  cases f fi.type x y <;> cases JI f P r a b <;> rfl
def ZpR (g : Option Bool) (s : Option Nat) (cs : List PV) (off : Nat) : Option PV := match g, s with
 | some true, some n => if off + n <= cs.length then some (.agg ((cs.drop off).take n)) else none
 | some false, _ => cs[off]?
 | _, _ => none
@[go_sem] theorem ZjF {cs off} : apart P t cs off = ZpR (Xj P t) (tsz P t) cs off := Eq.trans rfl rfl
@[go_sem] theorem Zj2 {s cs off} : ZpR (some false) s cs off = cs[off]? := Eq.trans rfl rfl
def JL (g : Option Bool) (s : Option Nat) (H : List Obj) (x : V) : Option V := match g, s with
 | some true, some n => (Yf H x n).map mkA
 | some false, _ => match Yf H x 1 with
  | some (c :: _) => some c
  | _ => none
 | _, _ => none
def hdO (x : Option (List V)) : Option V := match x with | some (c :: _) => some c | _ => none
@[go_sem] theorem Zkz {c l} : hdO (some (c :: l)) = some c := Eq.trans rfl rfl
@[go_sem] theorem ZkC {x} : Wr P H t x = JL (Xj P t) (tsz P t) H x := Eq.trans rfl rfl
@[go_sem] theorem ZfH {s x} : JL (some false) s H x = hdO (Yf H x 1) := by simp only [JL, hdO]
@[go_sem] theorem ZfM {n x} : JL (some true) (some n) H x = (Yf H x n).map mkA := Eq.trans rfl rfl
@[go_sem] theorem Zii {x j n} : Yf H (.lp x j) n = if j + n <= x.cells.length then some (((x.cells.drop j).take n).map .p) else none := Eq.trans rfl rfl
def Zd0 (ob : Obj) (off n : Nat) : Option (List V) := match ob with | .cells cs => if off + n <= cs.length then some ((cs.drop off).take n) else none | _ => none
@[go_sem] theorem Zga {o off n} : Yf H (.ptr o off) n = Zd0 (oat H o) off n := Eq.trans rfl rfl
@[go_sem] theorem ZdM {cs off n} : Zd0 (.cells cs) off n = if off + n <= cs.length then some ((cs.drop off).take n) else none := Eq.trans rfl rfl
def ZdH (ob : Obj) (i j tot n : Nat) : Option (List V) := match ob with
 | .elems _ xs => if xs.length = tot /\ i < xs.length /\ j + n <= (elt xs i).cells.length then some ((((elt xs i).cells.drop j).take n).map .p) else none
 | _ => none
@[go_sem] theorem ZhD {o i j tot n} : Yf H (.ep o i j tot) n = ZdH (oat H o) i j tot n := Eq.trans rfl rfl
@[go_sem] theorem Zeb {S xs i j tot n} : ZdH (.elems S xs) i j tot n = if xs.length = tot /\ i < xs.length /\ j + n <= (elt xs i).cells.length then some ((((elt xs i).cells.drop j).take n).map .p) else none := Eq.trans rfl rfl
@[go_sem] theorem ZhF {cs} : (PV.agg cs).cells = cs := Eq.trans rfl rfl
@[go_sem] theorem ZgF {n} : (PV.int k n).cells = [.int k n] := Eq.trans rfl rfl
@[go_sem] theorem Zgr {b} : (PV.bool b).cells = [.bool b] := Eq.trans rfl rfl
@[go_sem] theorem Ziz {s} : (PV.str s).cells = [.str s] := Eq.trans rfl rfl
@[go_sem] theorem Zf3 {c xs} : (PV.list c xs).cells = [.list c xs] := Eq.trans rfl rfl
@[go_sem] theorem ZmN {n} : (PV.int k n).one = true := Eq.trans rfl rfl
@[go_sem] theorem Zkk {b} : (PV.bool b).one = true := Eq.trans rfl rfl
@[go_sem] theorem ZlZ {s} : (PV.str s).one = true := Eq.trans rfl rfl
@[go_sem] theorem ZlI {c xs} : (PV.list c xs).one = true := Eq.trans rfl rfl
@[go_sem] theorem Zp5 {cs} : mkA cs = match VN cs with | some ps => .p (.agg ps) | none => .agg cs := Eq.trans rfl rfl
@[go_sem] theorem ZjH : VN [] = some [] := Eq.trans rfl rfl
@[go_sem] theorem Zja {x r} : VN (.p x :: r) = (VN r).map (x :: ·) := by simp only [VN]
def UB (n : Option Nat) (a : Bool) (x : V) : Option V := match n with | some n => if a then some (Um n x) else none | none => none
@[go_sem] theorem Zh6 {s f x} : YV P H s f x = UB (ZT P s f) (Xs H x) x := Eq.trans rfl rfl
@[go_sem] theorem ZdL {n x} : UB (some n) true x = some (Um n x) := Eq.trans rfl rfl
@[go_sem] theorem Zk9 {n x j} : Um n (.lp x j) = .lp x (j + n) := Eq.trans rfl rfl
@[go_sem] theorem Zha {n o off} : Um n (.ptr o off) = .ptr o (off + n) := Eq.trans rfl rfl
@[go_sem] theorem Zjl {n o i j tot} : Um n (.ep o i j tot) = .ep o i (j + n) tot := Eq.trans rfl rfl
def ZaN (ob : Obj) : Bool := match ob with | .cells _ => true | _ => false
@[go_sem] theorem Zcb {cs} : ZaN (.cells cs) = true := Eq.trans rfl rfl
def ZbP (ob : Obj) (tot : Nat) : Bool := match ob with | .elems _ xs => decide (xs.length = tot) | _ => false
@[go_sem] theorem Zdj {S xs tot} : ZbP (.elems S xs) tot = decide (xs.length = tot) := Eq.trans rfl rfl
def Zek (ob : Obj) (tot : Nat) : Bool := match ob with | .elems _ xs => decide (xs.length = tot) | .cells _ => true | _ => false
@[go_sem] theorem ZeR {S xs tot} : Zek (.elems S xs) tot = decide (xs.length = tot) := Eq.trans rfl rfl
@[go_sem] theorem Ze7 {cs tot} : Zek (.cells cs) tot = true := Eq.trans rfl rfl
@[go_sem] theorem Zli {x j} : Xs H (.lp x j) = true := Eq.trans rfl rfl
@[go_sem] theorem ZfL {o off} : Xs H (.ptr o off) = ZaN (oat H o) := Eq.trans rfl rfl
@[go_sem] theorem ZjC {o i j tot} : Xs H (.ep o i j tot) = ZbP (oat H o) tot := Eq.trans rfl rfl
def X9 (e : Option (Option Nat × Nat)) (H : List Obj) (x i : V) : Option V := match e, i with
 | some (none, S), .p (.int _ n) => match x with
  | .p (.list _ xs) => if 0 <= n /\ n < xs.length then (if (elt xs n.toNat).cells.length = S then some (.lp (elt xs n.toNat) 0) else none) else none
  | .sl o off len tot => match oat H o with
   | .elems S' xs => if xs.length = tot /\ S' = S then (if 0 <= n /\ n < len then some (.ep o (off + n.toNat) 0 tot) else none) else none
   | .cells _ => if S = 1 /\ off = 0 /\ len = tot /\ 0 <= n /\ n < len then some (.ptr o n.toNat) else none
   | _ => none
  | _ => none
 | some (some k, S), .p (.int _ n) => if 0 <= n /\ n < k then (if Xs H x then some (Um (n.toNat * S) x) else none) else none
 | _, _ => none
@[go_sem] theorem ZhM {x i} : YE P H t x i = X9 (YR P t) H x i := Eq.trans rfl rfl
theorem UQ {S c xs n} (h0 : 0 <= n) (h1 : n < (List.length xs : Int)) : X9 (some (none, S)) H (.p (.list c xs)) (.p (.int k n)) = if (elt xs n.toNat).cells.length = S then some (.lp (elt xs n.toNat) 0) else none := by
 simp only [X9]; rw [if_pos ⟨h0, h1⟩]
def nth {α : Type} [Inhabited α] (l : List α) (i : Nat) : α := l.getD i default
theorem YL {α : Type} [Inhabited α] {f : α -> PV} {l : List α} {i : Nat} (h : i < l.length) : elt (l.map f) i = f (nth l i) := by
 simp [elt, nth, h]
theorem Zm {α : Type} [Inhabited α] {l : List α} {i : Nat} (h : i < l.length) : nth l i = l[i] := by simp [nth, h]
@[go_sem] theorem Zeu {α : Type} [Inhabited α] {f : α -> PV} {l : List α} {S c n} (h0 : 0 <= n) (h1 : n < (l.length : Int)) :
  X9 (some (none, S)) H (.p (.list c (l.map f))) (.p (.int k n)) = if (f (nth l n.toNat)).cells.length = S then some (.lp (f (nth l n.toNat)) 0) else none := by
 rw [UQ h0 (by simpa using h1), YL (by omega)]
def UI (ob : Obj) (S o off len tot : Nat) (n : Int) : Option V := match ob with
 | .elems S' xs => if xs.length = tot /\ S' = S then (if 0 <= n /\ n < len then some (.ep o (off + n.toNat) 0 tot) else none) else none
 | .cells _ => if S = 1 /\ off = 0 /\ len = tot /\ 0 <= n /\ n < len then some (.ptr o n.toNat) else none
 | _ => none
@[go_sem] theorem Zf6 {S o off len tot n} : X9 (some (none, S)) H (.sl o off len tot) (.p (.int k n)) = UI (oat H o) S o off len tot n := Eq.trans rfl rfl
@[go_sem] theorem ZhV {S xs o off} {len tot : Nat} {n : Int} (h0 : 0 <= n) (h1 : n < (len : Int)) (ht : xs.length = tot) : UI (.elems S xs) S o off len tot n = some (.ep o (off + n.toNat) 0 tot) := by
 simp only [UI]; simp [ht, h0, h1]
@[go_sem] theorem Zd4 {cs o} {len : Nat} {n : Int} (h0 : 0 <= n) (h1 : n < (len : Int)) : UI (.cells cs) 1 o 0 len len n = some (.ptr o n.toNat) := by
 simp only [UI]; simp [h0, h1]
@[go_sem] theorem Zex {n} {m S : Nat} {x} (h0 : 0 <= n) (h1 : n < (m : Int)) : X9 (some (some m, S)) H x (.p (.int k n)) = UB (some (n.toNat * S)) (Xs H x) x := by
 simp only [X9, UB]; rw [if_pos ⟨h0, h1⟩]
def Zb6 (H : List Obj) (D : Option TypeDesc) (x : V) : Option PV := match D, x with
 | some (.slice _), .p (.list _ xs) => some (.int .i64 xs.length)
 | some (.slice _), .sl o _ len tot => match oat H o with
  | .elems _ xs => if xs.length = tot then some (.int .i64 len) else none
  | _ => none
 | some .string, .p (.str s) => some (.int .i64 s.length)
 | some (.array n _), _ => some (.int .i64 n)
 | _, _ => none
@[go_sem] theorem Zmf {x} : Zh8 P H t x = Zb6 H (P.underlying t) x := Eq.trans rfl rfl
@[go_sem] theorem Zgj {e c xs} : Zb6 H (some (.slice e)) (.p (.list c xs)) = some (.int .i64 (List.length xs)) := Eq.trans rfl rfl
def ZoL (ob : Obj) (len tot : Nat) : Option PV := match ob with | .elems _ xs => if xs.length = tot then some (.int .i64 len) else none | _ => none
@[go_sem] theorem Zkq {e o off len tot} : Zb6 H (some (.slice e)) (.sl o off len tot) = ZoL (oat H o) len tot := Eq.trans rfl rfl
@[go_sem] theorem Zgn {S xs len tot} : ZoL (.elems S xs) len tot = if xs.length = tot then some (.int .i64 len) else none := Eq.trans rfl rfl
@[go_sem] theorem Zis {s} : Zb6 H (some .string) (.p (.str s)) = some (.int .i64 (List.length s)) := Eq.trans rfl rfl
@[go_sem] theorem ZnA {b} : aun .not (.p (.bool b)) = some (.bool (!b)) := Eq.trans rfl rfl
@[go_sem] theorem Zmy {n} : aun .neg (.p (.int k n)) = some (.int k (k.wrap (0 - n))) := Eq.trans rfl rfl
def Zea (D E : Option TypeDesc) (x : V) : Option PV := match D, E, x with
 | some _, some (.int k), .p (.int _ n) => some (.int k (k.wrap n))
 | some (.int _), some .string, .p (.int _ n) => if 0 <= n /\ n < 128 then some (.str [UInt8.ofNat n.toNat]) else none
 | some .string, some .string, .p (.str b) => some (.str b)
 | _, _, _ => none
@[go_sem] theorem Zle {s x} : Zav P s t x = Zea (P.underlying s) (P.underlying t) x := Eq.trans rfl rfl
@[go_sem] theorem Zge {D k' n} : Zea (some D) (some (.int k)) (.p (.int k' n)) = some (.int k (k.wrap n)) := by cases D <;> rfl
def QV (E : Option TypeDesc) (H : List Obj) (x : V) : Option PV := match E, x with
  | some (.int .u8), .p (.list _ xs) => (ZZ xs).map .str
  | some (.int .u8), .sl o off len tot => match oat H o with
   | .elems _ xs => if xs.length = tot /\ off + len <= tot then (ZZ ((xs.take (off + len)).drop off)).map .str else none
   | _ => none
  | _, _ => none
def Jk (P : Program) (H : List Obj) (D E : Option TypeDesc) (x : V) : Option PV := match D, E with
 | some (.slice e), some .string => QV (P.underlying e) H x
 | _, _ => none
@[go_sem] theorem ZiB {s x} : V1 P H s t x = Jk P H (P.underlying s) (P.underlying t) x := Eq.trans rfl rfl
@[go_sem] theorem ZfD {E x} : Jk P H (some (.int k)) E x = none := Eq.trans rfl rfl
@[go_sem] theorem Zc5 {e x} : Jk P H (some (.slice e)) (some .string) x = QV (P.underlying e) H x := Eq.trans rfl rfl
def ZdW (ob : Obj) (off len tot : Nat) : Option PV := match ob with | .elems _ xs => if xs.length = tot /\ off + len <= tot then (ZZ ((xs.take (off + len)).drop off)).map .str else none | _ => none
@[go_sem] theorem ZfZ {o off len tot} : QV (some (.int .u8)) H (.sl o off len tot) = ZdW (oat H o) off len tot := Eq.trans rfl rfl
@[go_sem] theorem ZdX {S xs off len tot} : ZdW (.elems S xs) off len tot = if xs.length = tot /\ off + len <= tot then (ZZ ((xs.take (off + len)).drop off)).map .str else none := Eq.trans rfl rfl
@[go_sem] theorem Ze0 : ZZ [] = some [] := Eq.trans rfl rfl
@[go_sem] theorem Zeh {n r} : ZZ (.int .u8 n :: r) = (ZZ r).map (UInt8.ofNat n.toNat :: ·) := by simp [ZZ]
@[go_sem] theorem ZnY {a b : Int} (h : 0 <= a) : a.tdiv b = a / b := Int.tdiv_eq_ediv_of_nonneg h
@[go_sem] theorem Zm7 {a b : Int} (h : 0 <= a) : a.tmod b = a % b := Int.tmod_eq_emod_of_nonneg h
@[go_sem] theorem ZpB {cs} : vc H (.p (.agg cs)) = if cs.all (·.one) = true then some (cs.map .p) else none := by simp only [vc]
@[go_sem] theorem Znd {cs} : vc H (.agg cs) = if cs.all (V.one H) = true then some cs else none := by simp only [vc]
@[go_sem] theorem ZoA {n} : vc H (.p (.int k n)) = some [.p (.int k n)] := Eq.trans rfl rfl
@[go_sem] theorem Znn {n} : vc H (.p (.bool n)) = some [.p (.bool n)] := Eq.trans rfl rfl
@[go_sem] theorem Zp2 {n} : vc H (.p (.str n)) = some [.p (.str n)] := Eq.trans rfl rfl
@[go_sem] theorem ZnD {c xs} : vc H (.p (.list c xs)) = some [.p (.list c xs)] := Eq.trans rfl rfl
@[go_sem] theorem Zrq {o off len tot} : vc H (.sl o off len tot) = if Zek (oat H o) tot = true then some [.sl o off len tot] else none := Eq.trans rfl rfl
@[go_sem] theorem ZoO {x} : V.one H (.p x) = x.one := Eq.trans rfl rfl
@[go_sem] theorem ZmU {o} : V.one H (.mp o) = ZcN (oat H o) := Eq.trans rfl rfl
@[go_sem] theorem Zry {o} : vc H (.mp o) = if ZcN (oat H o) = true then some [.mp o] else none := Eq.trans rfl rfl
@[go_sem] theorem ZgP {es} : ZcN (.map es) = true := Eq.trans rfl rfl
@[go_sem] theorem ZmP {α : Type} {n} {cs : List α} : spl ([] : List α) n cs = [] := by cases cs <;> cases n <;> simp [spl]
@[go_sem] theorem Zlp {α : Type} {x c : α} {l cs} : spl (x :: l) 0 (c :: cs) = c :: spl l 0 cs := by simp [spl]
@[go_sem] theorem Zih {α : Type} {x : α} {l} : spl (x :: l) 0 [] = x :: l := by simp [spl]
@[go_sem] theorem ZjY {α : Type} {x : α} {l cs n} : spl (x :: l) (n + 1) cs = x :: spl l n cs := by simp [spl]
def ZdF (H : List Obj) (o : Nat) (ob : Obj) (off n : Nat) (cs : List V) : Option (List Obj) := match ob with
 | .cells old => if off + n <= old.length then some (ost H o (.cells (spl old off cs))) else none
 | _ => none
@[go_sem] theorem Zf5 {n o off cs} : WI H n (.ptr o off) cs = if cs.length = n then ZdF H o (oat H o) off n cs else none := Eq.trans rfl rfl
@[go_sem] theorem ZdE {o old off n cs} : ZdF H o (.cells old) off n cs = if off + n <= old.length then some (ost H o (.cells (spl old off cs))) else none := Eq.trans rfl rfl
def V9 (H : List Obj) (o : Nat) (ob : Obj) (i j tot n : Nat) (ps : Option (List PV)) : Option (List Obj) := match ob, ps with
 | .elems S xs, some ps => if xs.length = tot /\ i < xs.length /\ j + n <= (elt xs i).cells.length /\ ps.all (·.one) = true /\ (elt xs i).cells.all (·.one) = true then
   some (ost H o (.elems S (xs.set i (mkE (elt xs i) (spl (elt xs i).cells j ps))))) else none
 | _, _ => none
@[go_sem] theorem Ziw {n o i j tot cs} : WI H n (.ep o i j tot) cs = if cs.length = n then V9 H o (oat H o) i j tot n (VN cs) else none := Eq.trans rfl rfl
@[go_sem] theorem ZfJ {α : Type} [Inhabited α] {f : α -> PV} {l : List α} {o S i j tot n ps} (ht : l.length = tot) (hi : i < l.length) : V9 H o (.elems S (l.map f)) i j tot n (some ps) =
  if j + n <= (f (nth l i)).cells.length /\ ps.all (·.one) = true /\ (f (nth l i)).cells.all (·.one) = true then
   some (ost H o (.elems S ((l.map f).set i (mkE (f (nth l i)) (spl (f (nth l i)).cells j ps))))) else none := by
 simp only [V9, YL hi]
 have h1 : (l.map f).length = tot := by simpa using ht
 have h2 : i < (l.map f).length := by simpa using hi
 simp only [h1, h2, true_and];subst ht;simp [hi]
@[go_sem] theorem Zmv {a cs} : mkE (.agg a) cs = .agg cs := Eq.trans rfl rfl
@[go_sem] theorem ZmM {n c l} : mkE (.int k n) (c :: l) = c := Eq.trans rfl rfl
@[go_sem] theorem ZhI {l} : Qu P H t l = match ZR P t, tpl P t with
 | some zs, some pl => (Vs H pl (zs.map .p) l).map mkA
 | _, _ => none := Eq.trans rfl rfl
@[go_sem] theorem Zij {pl cs} : Vs H pl cs [] = some cs := by simp [Vs]
def Zdr (H : List Obj) (pl : Nat -> Option (Nat × Nat)) (cs : List V) (r : List (Nat × V)) (q : Option (Nat × Nat)) (vs : Option (List V)) : Option (List V) := match q, vs with
 | some (off, sz), some vs => if vs.length = sz /\ off + sz <= cs.length then Vs H pl (spl cs off vs) r else none
 | _, _ => none
@[go_sem] theorem ZfX {pl cs i v r} : Vs H pl cs ((i, v) :: r) = Zdr H pl cs r (pl i) (vc H v) := Eq.trans rfl rfl
@[go_sem] theorem Ze5 {pl cs off sz vs r} : Zdr H pl cs r (some (off, sz)) (some vs) = if vs.length = sz /\ off + sz <= cs.length then Vs H pl (spl cs off vs) r else none := Eq.trans rfl rfl
@[go_sem] theorem ZpF {l i} : plL l i = l[i]? := Eq.trans rfl rfl
@[go_sem] theorem Zp7 {n i} : plA n i = some (i * n, n) := Eq.trans rfl rfl
end vals
end Go.AM
namespace Go.AM
open Go.RowKit
section
variable {P : Program} {H : List Obj} {k : IntKind} {t u : TypeId} {fr : List V}
def Zeq (S : Option Nat) (H : List Obj) (n : Nat) (l : List (Nat × V)) : Option (V × List Obj) := match S with
 | some S => if n = l.length /\ n * S <= 16777216 /\ 0 < S then (UF H S 0 l).map fun xs => (.sl H.length 0 n n, H ++ [.elems S xs]) else none
 | none => none
@[go_sem] theorem ZjA {n l} : Wg P (.buildSlice t n (List.toArray l)) fr H = Zeq (Jo P t) H n (l.map fun x => (x.1, ev fr x.2)) := by
 simp only [Wg, Jo, Zeq]
 cases P.underlying t with
 | none => rfl
 | some D =>
  cases D <;> try rfl
  rename_i e;simp only []
  cases (P.info? e).bind (·.zero) with
  | none => rfl
  | some z =>
   simp only [Zfn]
   cases YR P t with
   | none => rfl
   | some q => obtain ⟨a, b⟩ := q; cases a <;> rfl
@[go_sem] theorem Zf2 {S n l} : Zeq (some S) H n l = if n = l.length /\ n * S <= 16777216 /\ 0 < S then (UF H S 0 l).map fun xs => (.sl H.length 0 n n, H ++ [.elems S xs]) else none := Eq.trans rfl rfl
@[go_sem] theorem Zlu {S n} : UF H S n [] = some [] := by simp [UF]
@[go_sem] theorem Zhb {S n i x r} : UF H S n ((i, .p x) :: r) = if i = n then if x.cells.length = S /\ x.cells.all (·.one) = true then (UF H S (n + 1) r).map (x :: ·) else none else none := by simp only [UF, pvo]
def Zb3 (P : Program) (t : TypeId) : Option (Nat × Nat) := match P.underlying t with
 | some (.slice e) => match tsz P e, zval P e, (P.info? e).map (·.bytes) with
  | some S, some z, some by' => if 0 < S /\ z.cells.length = S /\ z.cells.all (·.one) = true /\ by' ≠ 0 then some (S, by') else none
  | _, _, _ => none
 | _ => none
theorem Kk {S by'} (h : Zb3 P t = some (S, by')) : ∃ e z, P.underlying t = some (.slice e) /\ tsz P e = some S /\ zval P e = some z /\ (P.info? e).map (·.bytes) = some by' /\ 0 < S /\ z.cells.length = S /\ z.cells.all (·.one) = true /\ by' ≠ 0 := by
 unfold Zb3 at h
 split at h
 ·rename_i e hu
  split at h
  ·rename_i S' z b h1 h2 h3
   split at h
   ·rename_i hc;simp at h; obtain ⟨rfl, rfl⟩ := h;exact ⟨e, z, hu, h1, h2, h3, hc⟩
   ·cases h
  ·cases h
 ·cases h
def Wv (D : Option TypeDesc) (H : List Obj) (y : V) : Option (List PV) := match D, y with
 | some (.slice _), .p (.list _ ys) => some ys
 | some (.slice _), .sl o off len tot => match oat H o with
  | .elems _ xs => if xs.length = tot /\ off + len <= tot then some ((xs.take (off + len)).drop off) else none
  | _ => none
 | some .string, .p (.str s) => some (s.map fun b => .int .u8 b.toNat)
 | _, _ => none
def ZhX (ob : Obj) (off len tot : Nat) : Option (List PV) := match ob with | .elems _ xs => if xs.length = tot /\ off + len <= tot then some ((xs.take (off + len)).drop off) else none | _ => none
@[go_sem] theorem ZfS {e c ys} : Wv (some (.slice e)) H (.p (.list c ys)) = some ys := Eq.trans rfl rfl
@[go_sem] theorem ZkD {e o off len tot} : Wv (some (.slice e)) H (.sl o off len tot) = ZhX (oat H o) off len tot := Eq.trans rfl rfl
theorem JO {S xs n} (h : List.length xs = n) : ZhX (.elems S xs) 0 n n = some xs := by subst h; simp [ZhX]
def ZgB (H : List Obj) (F : Option (Nat × Nat)) (ys : Option (List PV)) : Option (V × List Obj) := match F, ys with
 | some (S, by'), some ys => if okE S ys = true /\ ys.length * by' <= 140737488355328 /\ ys.length <= 140737488355328 then some (.sl H.length 0 ys.length ys.length, H ++ [.elems S ys]) else none
 | _, _ => none
def QL (H : List Obj) (F : Option (Nat × Nat)) (ob : Obj) (o n : Nat) (ys : Option (List PV)) : Option (V × List Obj) := match F, ob, ys with
 | some (S, by'), .elems S' xs, some ys => if S' = S /\ xs.length = n /\ okE S ys = true /\ (n + ys.length) * by' <= 140737488355328 /\ n + ys.length <= 140737488355328 then
   some (.sl o 0 (n + ys.length) (n + ys.length), ost H o (.elems S (xs ++ ys))) else none
 | _, _, _ => none
theorem Zal {z x y ys e S by'} (h1 : P.underlying t = some (.slice e)) (h2 : tsz P e = some S) (h3 : zval P e = some z) (h4 : (P.info? e).map (·.bytes) = some by') (h5 : Zd6 P H u y = some ys) (h6 : 0 < S /\ z.cells.length = S /\ z.cells.all (·.one) = true /\ by' ≠ 0) :
  UG P H t u x y = if okE S ys = true then (match x with
    | .p (.list cl xs) => if cl = true /\ okE S xs = true /\ (xs = [] \/ 0 < ys.length) /\ (xs.length + ys.length) * by' <= 140737488355328 /\ xs.length + ys.length <= 140737488355328 then
      some (.sl H.length 0 (xs.length + ys.length) (xs.length + ys.length), H ++ [.elems S (xs ++ ys)]) else none
    | .sl o off len tot => match oat H o with
     | .elems S' xs => if S' = S /\ off = 0 /\ len = tot /\ xs.length = tot /\ (tot + ys.length) * by' <= 140737488355328 /\ tot + ys.length <= 140737488355328 then
       some (.sl o 0 (tot + ys.length) (tot + ys.length), ost H o (.elems S (xs ++ ys))) else none
     | _ => none
    | _ => none) else none := by
 simp only [UG, h1, h2, h3, h4, h5]
 by_cases hc : okE S ys = true
 ·rw [if_pos hc, if_pos ⟨h6.1, h6.2.1, h6.2.2.1, h6.2.2.2, hc⟩]
  cases x with
  | p x => cases x <;> rfl
  | _ => rfl
 ·rw [if_neg hc, if_neg (fun h => hc h.2.2.2.2)]
theorem Zdh {y F} (hF : Zb3 P t = some F) : UG P H t u (.p (.list true [])) y = ZgB H (some F) (Wv (P.underlying u) H y) := by
 obtain ⟨S, by'⟩ := F;obtain ⟨e, z, h1, h2, h3, h4, h6⟩ := Kk hF;have e1 : Wv (P.underlying u) H y = Zd6 P H u y := Eq.trans rfl rfl;rw [e1]
 cases h5 : Zd6 P H u y with
 | none => simp [UG, h1, h2, h3, h4, h5, ZgB]
 | some ys =>
  rw [Zal h1 h2 h3 h4 h5 h6];simp only [ZgB, okE]
  by_cases hc : ys.all (Zhj S) = true
  ·simp [hc]
  ·simp [hc]
theorem Yq {y F o n} (hF : Zb3 P t = some F) : UG P H t u (.sl o 0 n n) y = QL H (some F) (oat H o) o n (Wv (P.underlying u) H y) := by
 obtain ⟨S, by'⟩ := F;obtain ⟨e, z, h1, h2, h3, h4, h6⟩ := Kk hF;have e1 : Wv (P.underlying u) H y = Zd6 P H u y := Eq.trans rfl rfl;rw [e1]
 cases h5 : Zd6 P H u y with
 | none =>
  simp only [UG, h1, h2, h3, h4, h5, QL]
  cases oat H o <;> rfl
 | some ys =>
  rw [Zal h1 h2 h3 h4 h5 h6];simp only [QL]
  cases oat H o with
  | elems S' xs =>
   by_cases hc : okE S ys = true
   ·simp [hc]
   ·simp [hc]
  | cells cs => simp
  | map es => simp
  | bld T E r bs => simp
  | dead => simp
@[go_sem] theorem ZhJ {S b ys} : ZgB H (some (S, b)) (some ys) = if okE S ys = true /\ ys.length * b <= 140737488355328 /\ ys.length <= 140737488355328 then some (.sl H.length 0 ys.length ys.length, H ++ [.elems S ys]) else none := Eq.trans rfl rfl
theorem Qm {S b xs ys o n} (hn : xs.length = n) (hb : (n + ys.length) * b <= 140737488355328) (hb2 : n + ys.length <= 140737488355328) : QL H (some (S, b)) (.elems S xs) o n (some ys) = if okE S ys = true then some (.sl o 0 (n + ys.length) (n + ys.length), ost H o (.elems S (xs ++ ys))) else none := by
 simp only [QL]
 by_cases hc : okE S ys = true
 ·rw [if_pos ⟨trivial, hn, hc, hb, hb2⟩, if_pos hc]
 ·rw [if_neg (fun h => hc h.2.2.1), if_neg hc]
@[go_sem] theorem Zk2 {α : Type} {S} {f : α -> PV} {l : List α} : ZhX (.elems S (l.map f)) 0 l.length l.length = some (l.map f) := JO (by simp)
@[go_sem] theorem ZjK {S x} : ZhX (.elems S [x]) 0 1 1 = some [x] := JO (by simp)
@[go_sem] theorem ZiT {α : Type} {S b o x} {f : α -> PV} {l : List α} (hb : (l.length + 1) * b <= 140737488355328) (hb2 : l.length + 1 <= 140737488355328) : QL H (some (S, b)) (.elems S (l.map f)) o l.length (some [x]) = if okE S [x] = true then some (.sl o 0 (l.length + 1) (l.length + 1), ost H o (.elems S (l.map f ++ [x]))) else none :=
 Qm (by simp) (by simpa using hb) (by simpa using hb2)
@[go_sem] theorem ZhG {α β : Type} {S b o} {f : α -> PV} {g : β -> PV} {l : List α} {m : List β} (hb : (l.length + m.length) * b <= 140737488355328) (hb2 : l.length + m.length <= 140737488355328) : QL H (some (S, b)) (.elems S (l.map f)) o l.length (some (m.map g)) = if okE S (m.map g) = true then some (.sl o 0 (l.length + m.length) (l.length + m.length), ost H o (.elems S (l.map f ++ m.map g))) else none := by
 have := @Qm H S b (l.map f) (m.map g) o l.length (by simp) (by simpa using hb) (by simpa using hb2);simpa using this
@[go_sem] theorem Zm2 {S} : okE S [] = true := Eq.trans rfl rfl
@[go_sem] theorem Zlw {S x l} : okE S (x :: l) = ((x.cells.length == S) && x.cells.all (·.one) && okE S l) := by simp [okE, Zhj]
theorem Zad {α : Type} {S} {f : α -> PV} {l : List α} (h : ∀ x, Zhj S (f x) = true) : okE S (l.map f) = true := by simp [okE]; intro x _; exact h x
end
def XG : Nat -> List Nat -> List V -> List V
 | _, _, [] => []
 | i, [], _ :: l => .junk :: XG (i + 1) [] l
 | i, k :: ks, x :: l => if i = k then x :: XG (i + 1) ks l else .junk :: XG (i + 1) (k :: ks) l
def QJ : List (Nat × V) -> List V -> List V
 | [], fr => fr
 | (i, v) :: r, fr => QJ r (pt fr i v)
@[go_sem] theorem Zhh {i ks} : XG i ks [] = [] := by cases ks <;> simp [XG]
@[go_sem] theorem Zgq {i x l} : XG i [] (x :: l) = .junk :: XG (i + 1) [] l := by simp [XG]
@[go_sem] theorem Zgg {i k ks x l} : XG i (k :: ks) (x :: l) = if i = k then x :: XG (i + 1) ks l else .junk :: XG (i + 1) (k :: ks) l := by simp [XG]
@[go_sem] theorem ZqR : ((0 : Nat) : Int) = 0 := Eq.trans rfl rfl
@[go_sem] theorem Zq1 {n : Nat} : ((n + 1 : Nat) : Int) = (n : Int) + 1 := Eq.trans rfl rfl
@[go_sem] theorem Zpg {n : Nat} : ((n : Int)).toNat = n := Eq.trans rfl rfl
@[go_sem] theorem Zj5 {fr} : QJ [] fr = fr := by simp [QJ]
@[go_sem] theorem ZiS {i v r fr} : QJ ((i, v) :: r) fr = QJ r (pt fr i v) := by simp [QJ]
@[go_sem] theorem ZhC {p q : Prop} [Decidable p] [Decidable q] : (decide p || decide q) = decide (p \/ q) := by simp
theorem Zi {P c fr H Q} {I : Type} (ks : List Nat) (sets : I -> List (Nat × V)) (hs : I -> List Obj) (R : I -> Prop) (μ : I -> Nat) (i0 : I) (hR : R i0) (h0 : Weak H.length fr H (QJ (sets i0) (XG 0 ks fr)) (hs i0))
  (round : ∀ i, R i -> awp [] P c (QJ (sets i) (XG 0 ks fr)) (hs i) (Wl (fun fr' H' => ∃ i', R i' /\ μ i' < μ i /\ Weak H.length fr' H' (QJ (sets i') (XG 0 ks fr)) (hs i')) Q)) : AWP P (.loop c) fr H Q :=
 JN R (fun i => QJ (sets i) (XG 0 ks fr)) hs μ i0 hR h0 fun i hi => Za [] _ _ _ _ (round i hi)
theorem Xv {P c fr H Q} (cuts : List Nat) {I : Type} (ks : List Nat) (sets : I -> List (Nat × V)) (hs : I -> List Obj) (R : I -> Prop) (μ : I -> Nat) (i0 : I) (hR : R i0) (h0 : Weak H.length fr H (QJ (sets i0) (XG 0 ks fr)) (hs i0))
  (round : ∀ i, R i -> awp cuts P c (QJ (sets i) (XG 0 ks fr)) (hs i) (Wl (fun fr' H' => ∃ i', R i' /\ μ i' < μ i /\ Weak H.length fr' H' (QJ (sets i') (XG 0 ks fr)) (hs i')) Q)) : AWP P (.loop c) fr H Q :=
 JN R (fun i => QJ (sets i) (XG 0 ks fr)) hs μ i0 hR h0 fun i hi => Za cuts _ _ _ _ (round i hi)
theorem Zo {P x y fr H Q} {I : Type} (ks : List Nat) (sets : I -> List (Nat × V)) (hs : I -> List Obj) (R : I -> Prop)
  (h : awp [] P x fr H (Wl (fun fr' H' => ∃ i, R i /\ Weak H.length fr' H' (QJ (sets i) (XG 0 ks fr)) (hs i)) Q)) (k : ∀ i, R i -> AWP P y (QJ (sets i) (XG 0 ks fr)) (hs i) Q) : AWP P (.seq x y) fr H Q :=
 fun F ι a w hr hf => by
 refine wp_seq (wp_mono (Za [] _ _ _ _ h F ι a w hr hf) ?_);rintro e a' w' ⟨fr', H', ι', q, g, f⟩
 cases e with
 | normal =>
  obtain ⟨i, hi, hw⟩ := q;obtain ⟨ι2, r2, f2, g2⟩ := hw F ι' a' w' g.rel f;refine wp_mono (k i hi F ι2 a' w' r2 f2) ?_;rintro e2 a2 w2 ⟨fr2, H2, ι3, q2, g3, f3⟩;exact ⟨fr2, H2, ι3, q2, (g2 H ι w (Nat.le_refl _) g).trans g3, f3⟩
 | exit id => exact ⟨fr', H', ι', q, g, f⟩
 | goto l => exact ⟨fr', H', ι', q, g, f⟩
 | ret => exact ⟨fr', H', ι', q, g, f⟩
 | panic ch => exact ⟨fr', H', ι', q, g, f⟩
 | outgrown => exact ⟨fr', H', ι', q, g, f⟩
@[go_sem] theorem ZkH {H n x} : wkV H n x .junk = True := by simp [wkV]
@[go_sem] theorem Zpp {H n} {x y : PV} : wkV H n (.p x) (.p y) = (y = x) := by simp [wkV, refB, frz]
@[go_sem] theorem Zne {H n o off len tot o' off' len' tot'} : wkV H n (.sl o off len tot) (.sl o' off' len' tot') = ((o' = o /\ off' = off /\ len' = len /\ tot' = tot) /\ o < n) := by simp [wkV, refB]
@[go_sem] theorem ZkK {H n o off o' off'} : wkV H n (.ptr o off) (.ptr o' off') = ((o' = o /\ off' = off) /\ o < n) := by simp [wkV, refB]
@[go_sem] theorem ZlT {H n} : wkF H n [] [] = True := by simp [wkF]
@[go_sem] theorem ZkJ {H n x l x' l'} : wkF H n (x :: l) (x' :: l') = (wkV H n x x' /\ wkF H n l l') := by simp [wkF]
@[go_sem] theorem Znl {H n l} : wkH H n l [] = True := by simp [wkH]
@[go_sem] theorem ZlM {H n x l x' l'} : wkH H n (x :: l) (x' :: l') = (wkO H n x x' /\ wkH H n l l') := by simp [wkH]
@[go_sem] theorem ZgR {H n cs cs'} : wkO H n (.cells cs) (.cells cs') = wkF H n cs cs' := by simp [wkO]
@[go_sem] theorem ZiE {H n S S' xs xs'} : wkO H n (.elems S xs) (.elems S' xs') = (S = S' /\ xs = xs') := by simp [wkO]
@[go_sem] theorem Zl1 {H n es es2} : wkO H n (.map es) (.map es2) = (es = es2) := by simp [wkO]
@[go_sem] theorem ZpG {H n o o2} : wkV H n (.mp o) (.mp o2) = (o2 = o /\ o < n) := by simp [wkV, refB, frz]
@[go_sem] theorem Zj6 {H n} : wkO H n .dead .dead = True := by simp [wkO]
theorem Weak.mk {n0 fr H fr' H'} (h : n0 <= H'.length /\ H'.length <= H.length /\ wkF H H'.length fr fr' /\ wkH H H'.length H H') : Weak n0 fr H fr' H' := Weak.of h.1 h.2.2.1 h.2.2.2 h.2.1
theorem wk {n0 fr H fr' H'} (h : n0 <= H'.length /\ H'.length <= H.length /\ wkF H H'.length fr fr' /\ wkH H H'.length H H' := by simp (disch := omega) only [go_sem, seval]) : Weak n0 fr H fr' H' := Weak.mk h
theorem we {n0 x H' a b} (h : n0 <= List.length b /\ List.length b <= H'.length /\ wkF H' (List.length b) [x] [a] /\ wkH H' (List.length b) H' b := by simp (disch := omega) only [go_sem, seval]) : ∃ y H'', Weak n0 [x] H' [y] H'' /\ y = a /\ H'' = b := ⟨_, _, Weak.mk h, rfl, rfl⟩
attribute [go_sem] List.length_cons List.length_nil List.cons_append List.nil_append List.append_nil List.map_cons List.map_nil List.drop_zero List.drop_succ_cons List.drop_nil List.take_succ_cons List.take_zero List.take_nil List.all_cons List.all_nil
 Nat.zero_add Nat.add_zero and_self true_and and_true Option.map_some Option.bind_some List.getElem?_cons_zero List.getElem?_cons_succ Bool.and_true Bool.true_and Bool.and_self List.length_map if_true if_false decide_true decide_false IntWalk.i64_in IntWalk.i32_in IntWalk.u8_in IntWalk.u64_in IntWalk.u32_in
 beq_self_eq_true List.replicate_succ List.replicate_zero Bool.or_true Bool.true_or Bool.or_false Bool.false_or Bool.not_true Bool.not_false
end Go.AM
namespace Go.AM
open Go.RowKit
theorem RP.weaker {X X' : Nat -> Prop} {w x v} (h : RP X w x v) (hx : ∀ b, X' b -> X b) : RP X' w x v := h.ext (w' := w) fun _ hb hs => ⟨fun h => hb (hx _ h), hs, rfl⟩
theorem Good.forget {F w H' ι' w'} (he : Env F [] w) (hf : ∀ b, F b -> b < w.heap.size) (g : Good F [] [] w H' ι' w') : Good F [] [] w [] [] w' :=
 .up he ⟨⟨rfl, fun b hb => by have := hf b hb; have := g.size; omega, fun i j b hi => by simp at hi, fun i b hi => by simp at hi, fun o cs ho => by simp at ho, fun o S xs ho => by simp at ho, fun o es ho => by simp at ho, fun o T E r bs ho => by simp at ho⟩,
  g.os, g.tape, g.output, fun b c t h => (g.shape b c t h).imp (fun h => absurd h.1 (by simp)) id, g.size, g.keep, fun _ _ h => h, fun o ob ho => by simp at ho⟩
theorem ACalls.pure {P g args} {y : PV} (h : ACalls P g args [] fun x _ => x = .p y) : ACalls P g args [] fun x H' => x = .p y /\ H' = [] := by
 refine ⟨h.1, fun F ι w vs hr hv => ?_⟩;have hι : ι = [] := List.eq_nil_of_length_eq_zero hr.len;subst hι;refine (h.2 F [] w vs hr hv).mono ?_;rintro e w' ⟨x, H', ι', v, rfl, rfl, gd, rv⟩
 cases rv with | p _ _ rp =>
 exact ⟨_, [], [], v, rfl, ⟨rfl, rfl⟩, gd.forget hr.env hr.fin, .p _ _ (rp.weaker fun b hb => .inl (by rcases hb with hb | hb; exact hb; simp at hb))⟩
theorem V6 {F : Nat -> Prop} {w w' : World} {H' : List Obj} {ι' : List (Option Nat)} {v : Value} {o S n : Nat} {xs : List PV} (hF : ∀ b, F b -> b < w.heap.size) (hn : xs.length = n) (ho : oat H' o = .elems S xs)
  (gd : Good F [] [] w H' ι' w') (rv : RV F H' ι' w' (.sl o 0 n n) v) : ∃ ι2, Good F [] [] w [.elems S xs] ι2 w' /\ RV F [.elems S xs] ι2 w' (.sl 0 0 n n) v := by
 have hH := ZC ho (by simp);have hlt := (List.getElem?_eq_some_iff.1 hH).1
 have hlt' : o < ι'.length := by rw [gd.rel.len]; exact hlt
 have hι' : ι'[o]? = some (ι'[o]) := by simp [hlt']
 have hget : ∀ {i : Nat} {q : Option Nat}, [ι'[o]][i]? = some q -> i = 0 /\ ι'[o]? = some q := fun {i q} h => by
  cases i with
  | zero => simp at h; subst h; exact ⟨rfl, hι'⟩
  | succ i => simp at h
 have hown : ∀ b, Own F [ι'[o]] b -> Own F ι' b := fun b hb => by
  rcases hb with hb | hb
  ·exact .inl hb
  ·simp at hb; right; rw [hb]; simp
 refine ⟨[ι'[o]], ⟨⟨⟨rfl, fun b hb => ?_, fun i j b hi hj => ?_, fun i b hi => ?_, fun o' cs ho' => ?_, fun o' S' xs' ho' => ?_, fun o' es ho' => by cases o' <;> simp at ho', fun o' T E r bs ho' => by cases o' <;> simp at ho'⟩, gd.rel.env.le hown⟩, gd.os, gd.tape, gd.output, fun b c t h => (gd.shape b c t h).imp (fun h => absurd h.1 (by simp)) id, gd.size, gd.keep, fun b hb _ h => ?_, fun o ob ho => by simp at ho⟩, ?_⟩
 ·have := hF b hb; have := gd.size; omega
 ·rw [(hget hi).1, (hget hj).1]
 ·exact gd.rel.avo o b (hget hi).2
 ·cases o' with
  | zero => simp at ho'
  | succ i => simp at ho'
 ·cases o' with
  | zero =>
   simp at ho'; obtain ⟨rfl, rfl⟩ := ho';rcases gd.rel.elm o _ _ hH with ⟨e1, e2⟩ | ⟨b, c, t, cap, e1, e2, e3, e4, e5, e6, e7⟩
   ·exact .inl ⟨by rw [hι'] at e1; simpa using e1, e2⟩
   ·exact .inr ⟨b, c, t, cap, by rw [hι'] at e1; simpa using e1, e2, e3, e4, e5, e6, fun i x j y hi hj => (e7 i x j y hi hj).weaker hown⟩
  | succ i => simp at ho'
 ·simp at h;exact gd.own b hb (by simp) (by rw [h]; simp)
 ·cases rv with
  | slNil _ S2 a h1 h2 =>
   rw [hH] at h2; simp at h2; obtain ⟨rfl, rfl⟩ := h2;exact .slNil 0 S a (by rw [hι'] at h1; simpa using h1) rfl
  | sl _ _ _ _ b S2 cap t xs2 c h1 h2 ht hw hcap hl hlen hm =>
   rw [hH] at h2; simp at h2; obtain ⟨rfl, rfl⟩ := h2;exact .sl 0 0 n n b S cap t xs c (by rw [hι'] at h1; simpa using h1) rfl hn hw hcap hl hlen hm
  | slD _ _ _ _ _ h1 => rw [hH] at h1; cases h1
  | slS _ _ _ _ _ S2 xs2 h1 hne => rw [hH] at h1; simp at h1; obtain ⟨_, rfl⟩ := h1; omega
  | slC _ _ _ _ _ _ hd => rw [hH] at hd; cases hd
theorem ACalls.fresh {P g args} {S n : Nat} {xs : List PV} (hn : xs.length = n) (h : ACalls P g args [] fun x H' => ∃ o, x = .sl o 0 n n /\ oat H' o = .elems S xs) : ACalls P g args [] fun x H' => x = .sl 0 0 n n /\ H' = [.elems S xs] := by
 refine ⟨h.1, fun F ι w vs hr hv => ?_⟩;have hι : ι = [] := List.eq_nil_of_length_eq_zero hr.len;subst hι;refine (h.2 F [] w vs hr hv).mono ?_;rintro e w' ⟨x, H', ι', v, rfl, ⟨o, rfl, ho⟩, gd, rv⟩;obtain ⟨ι2, g2, r2⟩ := V6 hr.fin hn ho gd rv;exact ⟨_, _, ι2, v, rfl, ⟨rfl, rfl⟩, g2, r2⟩
theorem ACalls.freshE {P g args} {α : Type} {S : Nat} {f : α -> PV} {R : List α -> Prop} (h : ACalls P g args [] fun x H' => ∃ l : List α, R l /\ ∃ o, x = .sl o 0 l.length l.length /\ oat H' o = .elems S (l.map f)) :
  ACalls P g args [] fun x H' => ∃ l : List α, R l /\ x = .sl 0 0 l.length l.length /\ H' = [.elems S (l.map f)] := by
 refine ⟨h.1, fun F ι w vs hr hv => ?_⟩;have hι : ι = [] := List.eq_nil_of_length_eq_zero hr.len;subst hι;refine (h.2 F [] w vs hr hv).mono ?_;rintro e w' ⟨x, H', ι', v, rfl, ⟨l, hl, o, rfl, ho⟩, gd, rv⟩;obtain ⟨ι2, g2, r2⟩ := V6 hr.fin (by simp) ho gd rv;exact ⟨_, _, ι2, v, rfl, ⟨l, hl, rfl, rfl⟩, g2, r2⟩
theorem ACalls.frozen {P g args} {S n : Nat} {xs : List PV} (hn : xs.length = n) (h : ACalls P g args [] fun x H' => x = .sl 0 0 n n /\ H' = [.elems S xs]) : ACalls P g args [] fun x H' => x = .p (.list false xs) /\ H' = [] := by
 refine ⟨h.1, fun F ι w vs hr hv => ?_⟩;have hι : ι = [] := List.eq_nil_of_length_eq_zero hr.len;subst hι;refine (h.2 F [] w vs hr hv).mono ?_;rintro e w' ⟨x, H', ι', v, rfl, ⟨rfl, rfl⟩, gd, rv⟩;have hk : Keeps (Own F ι') w' (Own F []) w' := fun b hb hs => ⟨fun h => hb (.inl (by rcases h with h | h; exact h; simp at h)), hs, rfl⟩
 have := VT (S := S) (xs := xs) (off := 0) (len := n) (tot := n) (Own F []) (fun b hb h => by
  rcases h with h | h
  ·exact (gd.rel.avo 0 b hb).1 h
  ·simp at h) hk gd.rel rfl hn (by omega) rv
 rw [Nat.zero_add, List.drop_zero, List.take_of_length_le (by omega)] at this;exact ⟨_, [], [], v, rfl, ⟨rfl, rfl⟩, gd.forget hr.env hr.fin, .p _ _ this⟩
theorem ACalls.frozenE {P g args} {α : Type} {S : Nat} {f : α -> PV} {R : List α -> Prop} (h : ACalls P g args [] fun x H' => ∃ l : List α, R l /\ x = .sl 0 0 l.length l.length /\ H' = [.elems S (l.map f)]) :
  ACalls P g args [] fun x H' => ∃ l : List α, R l /\ x = .p (.list false (l.map f)) /\ H' = [] := by
 refine ⟨h.1, fun F ι w vs hr hv => ?_⟩;have hι : ι = [] := List.eq_nil_of_length_eq_zero hr.len;subst hι;refine (h.2 F [] w vs hr hv).mono ?_;rintro e w' ⟨x, H', ι', v, rfl, ⟨l, hl, rfl, rfl⟩, gd, rv⟩;have hk : Keeps (Own F ι') w' (Own F []) w' := fun b hb hs => ⟨fun h => hb (.inl (by rcases h with h | h; exact h; simp at h)), hs, rfl⟩
 have := VT (S := S) (xs := l.map f) (off := 0) (len := l.length) (tot := l.length) (Own F []) (fun b hb h => by
  rcases h with h | h
  ·exact (gd.rel.avo 0 b hb).1 h
  ·simp at h) hk gd.rel rfl (by simp) (by omega) rv
 rw [Nat.zero_add, List.drop_zero, List.take_of_length_le (by simp)] at this;exact ⟨_, [], [], v, rfl, ⟨l, hl, rfl, rfl⟩, gd.forget hr.env hr.fin, .p _ _ this⟩
theorem ACalls.useV {P g args} {α : Type} {f : α -> PV} {R : α -> Prop} {H : List Obj} {K : V -> List Obj -> Prop} (h : ACalls P g args [] fun x H' => ∃ a : α, R a /\ x = .p (f a) /\ H' = []) (k : ∀ a, R a -> K (.p (f a)) H) (ha : ZQ 0 args = true := by rfl) : ACalls P g args H K := by
 refine (h.behind ha H).mono ?_;rintro x H' ⟨y', H1, ⟨a, ra, rfl, rfl⟩, rfl, rfl⟩;simpa [shV] using k a ra
theorem ACalls.useE {P g args} {α : Type} {S : Nat} {f : α -> PV} {R : List α -> Prop} {H : List Obj} {K : V -> List Obj -> Prop} (h : ACalls P g args [] fun x H' => ∃ l : List α, R l /\ x = .sl 0 0 l.length l.length /\ H' = [.elems S (l.map f)])
  (k : ∀ l, R l -> K (.sl H.length 0 l.length l.length) (H ++ [.elems S (l.map f)])) (ha : ZQ 0 args = true := by rfl) : ACalls P g args H K := by
 refine (h.behind ha H).mono ?_;rintro x H' ⟨y', H1, ⟨l, rl, rfl, rfl⟩, rfl, rfl⟩;simpa [shV, shO] using k l rl
theorem ACalls.use {P g args} {y : PV} {H : List Obj} {K : V -> List Obj -> Prop} (h : ACalls P g args [] fun x H' => x = .p y /\ H' = []) (k : K (.p y) H) (ha : ZQ 0 args = true := by rfl) : ACalls P g args H K := by
 refine (h.behind ha H).mono ?_;rintro x H' ⟨y', H1, ⟨rfl, rfl⟩, rfl, rfl⟩;simpa [shV] using k
theorem ACalls.useF {P g args} {S n : Nat} {xs : List PV} {H : List Obj} {K : V -> List Obj -> Prop} (h : ACalls P g args [] fun x H' => x = .sl 0 0 n n /\ H' = [.elems S xs]) (k : K (.sl H.length 0 n n) (H ++ [.elems S xs])) (ha : ZQ 0 args = true := by rfl) : ACalls P g args H K := by
 refine (h.behind ha H).mono ?_;rintro x H' ⟨y', H1, ⟨rfl, rfl⟩, rfl, rfl⟩;simpa [shV, shO] using k
theorem Zb {P : Program} {g : FuncId} {fn : Func} {c : Code} {args : List V} {y : PV} (hf : P.funcs[g]? = some fn) (hb : fn.body = some c) (hg : Zn P g)
  (h : awp [] P c (args ++ List.replicate (fn.ntmps - args.length) .junk) [] (JB P fn.results.toList fun x _ => x = .p y)) : ACalls P g args [] fun x H' => x = .p y /\ H' = [] :=
 (XW hf hb hg (Za [] _ _ _ _ h)).pure
theorem WC (cuts : List Nat) {P : Program} {g : FuncId} {fn : Func} {c : Code} {args : List V} {y : PV} (hf : P.funcs[g]? = some fn) (hb : fn.body = some c) (hg : Zn P g)
  (h : awp cuts P c (args ++ List.replicate (fn.ntmps - args.length) .junk) [] (JB P fn.results.toList fun x _ => x = .p y)) : ACalls P g args [] fun x H' => x = .p y /\ H' = [] :=
 (XW hf hb hg (Za cuts _ _ _ _ h)).pure
theorem UR {P : Program} {g : FuncId} {fn : Func} {c : Code} {args : List V} {S n : Nat} {xs : List PV} (hn : xs.length = n) (hf : P.funcs[g]? = some fn) (hb : fn.body = some c) (hg : Zn P g)
  (h : awp [] P c (args ++ List.replicate (fn.ntmps - args.length) .junk) [] (JB P fn.results.toList fun x H' => ∃ o, x = .sl o 0 n n /\ oat H' o = .elems S xs)) : ACalls P g args [] fun x H' => x = .sl 0 0 n n /\ H' = [.elems S xs] :=
 (XW hf hb hg (Za [] _ _ _ _ h)).fresh hn
theorem Uc (cuts : List Nat) {P : Program} {g : FuncId} {fn : Func} {c : Code} {args : List V} {S n : Nat} {xs : List PV} (hn : xs.length = n) (hf : P.funcs[g]? = some fn) (hb : fn.body = some c) (hg : Zn P g)
  (h : awp cuts P c (args ++ List.replicate (fn.ntmps - args.length) .junk) [] (JB P fn.results.toList fun x H' => ∃ o, x = .sl o 0 n n /\ oat H' o = .elems S xs)) : ACalls P g args [] fun x H' => x = .sl 0 0 n n /\ H' = [.elems S xs] :=
 (XW hf hb hg (Za cuts _ _ _ _ h)).fresh hn
theorem ZD (cuts : List Nat) {P : Program} {g : FuncId} {fn : Func} {c : Code} {args : List V} {α : Type} {S : Nat} {f : α -> PV} {R : List α -> Prop} (hf : P.funcs[g]? = some fn) (hb : fn.body = some c) (hg : Zn P g)
  (h : awp cuts P c (args ++ List.replicate (fn.ntmps - args.length) .junk) [] (JB P fn.results.toList fun x H' => ∃ l : List α, R l /\ ∃ o, x = .sl o 0 l.length l.length /\ oat H' o = .elems S (l.map f))) : ACalls P g args [] fun x H' => ∃ l : List α, R l /\ x = .sl 0 0 l.length l.length /\ H' = [.elems S (l.map f)] :=
 (XW hf hb hg (Za cuts _ _ _ _ h)).freshE
theorem Weak.ofNil {n0 fr H fr' H'} (t S : Nat) (h : gt fr t = .p (.list true [])) (hn : n0 <= H.length) (k : Weak n0 (pt fr t (.sl H.length 0 0 0)) (H ++ [.elems S []]) fr' H') : Weak n0 fr H fr' H' :=
 (Weak.nil t S h hn).trans k
end Go.AM
namespace Go.AM
open Go.RowKit
section
variable {P : Program} {H : List Obj} {t : TypeId} {fr : List V}
def Zfc (e : Option (Option Nat × Nat)) (c : Bool) (xs : List PV) (lo hi : V) : Option V := match e, lo, hi with
 | some (none, S), .p (.int _ a), .p (.int _ b) => if Zch S xs = true /\ 0 <= a /\ a <= b /\ b <= xs.length then some (.p (.list (c && decide (b = xs.length)) ((xs.take b.toNat).drop a.toNat))) else none
 | _, _, _ => none
def V.isInt : V -> Option Int
 | .p (.int _ n) => some n
 | _ => none
theorem V.isInt_some {x : V} {n} (h : x.isInt = some n) : ∃ k, x = .p (.int k n) := by
 unfold V.isInt at h; split at h
 ·rename_i k m; simp at h; exact ⟨k, by rw [h]⟩
 ·cases h
theorem Zbr {d : Int} {x : Operand} : abd d fr (some x) = (ev fr x).isInt := rfl
theorem Zam {c xs k k' a b} : (Wm P t c xs a b none).map .p = Zfc (YR P t) c xs (.p (.int k a)) (.p (.int k' b)) := by
 simp only [Wm, Zfc]
 cases YR P t with
 | none => rfl
 | some q =>
  obtain ⟨e, S⟩ := q
  cases e with
  | some n => rfl
  | none => simp only []; split <;> rfl
theorem Zff {e c xs lo hi} (h : hi.isInt = none) : Zfc e c xs lo hi = none := by
 unfold Zfc; split
 ·simp [V.isInt] at h
 ·rfl
@[go_sem] theorem Ziy {c xs hi} : Vh P H t fr (.p (.list c xs)) none (some hi) none = Zfc (YR P t) c xs (.p (.int .i64 0)) (ev fr hi) := by
 simp only [Vh, Zbr]
 cases h : (ev fr hi).isInt with
 | none => simp [abd, Zff h]
 | some n => obtain ⟨k, e⟩ := V.isInt_some h; rw [e, <- Zam]; rfl
@[go_sem] theorem Zj4 {α : Type} {f : α -> PV} {l : List α} {S c k k' a b} (h0 : 0 <= a) (h1 : a <= b) (h2 : b <= (l.length : Int)) :
  Zfc (some (none, S)) c (l.map f) (.p (.int k a)) (.p (.int k' b)) = if Zch S (l.map f) = true then some (.p (.list (c && decide (b = l.length)) (((l.take b.toNat).drop a.toNat).map f))) else none := by
 simp only [Zfc, List.length_map]
 by_cases h : Zch S (l.map f) = true
 ·rw [if_pos ⟨h, h0, h1, h2⟩, if_pos h]; simp
 ·rw [if_neg (fun q => h q.1), if_neg h]
end
def ZbS (P : Program) (d : Option TypeDesc) (x i : V) : Option V :=
 match d, x, i with
 | some .string, .p (.str s), .p (.int _ n) => if 0 <= n then (s[n.toNat]?).map fun b => .p (.int .u8 b.toNat) else none
 | some (.array k e), .p (.agg cs), .p (.int _ n) => if 0 <= n /\ n < k then (match tsz P e with | some m => (apart P e cs (n.toNat * m)).map .p | none => none) else none
 | _, _, _ => none
@[go_sem] theorem ZnJ {P : Program} {t : TypeId} {x i : V} : Za8 P t x i = ZbS P (P.underlying t) x i := Eq.trans rfl rfl
@[go_sem] theorem Zg2 {P : Program} {s : List UInt8} {k n} (h0 : 0 <= n) (h1 : n < (s.length : Int)) : ZbS P (some .string) (.p (.str s)) (.p (.int k n)) = some (.p (.int .u8 ((nth s n.toNat).toNat : Nat))) := by
 have h : n.toNat < s.length := by omega
 simp [ZbS, h0, h, Zm h]
section
variable {P : Program} {H : List Obj} {t : TypeId} {fr : List V}
end
@[go_sem low] theorem Zc3 {H : List Obj} {S b xs ys o n} : QL H (some (S, b)) (.elems S xs) o n (some ys) = if xs.length = n /\ okE S ys = true /\ (n + ys.length) * b <= 140737488355328 /\ n + ys.length <= 140737488355328 then some (.sl o 0 (n + ys.length) (n + ys.length), ost H o (.elems S (xs ++ ys))) else none := by simp [QL]
@[go_sem] theorem ZnV {H : List Obj} {n f a b f' a' b'} : wkV H n (.fn f a b) (.fn f' a' b') = ((f' = f /\ a' = a /\ b' = b) /\ refB n (.fn f a b) = true) := by simp [wkV, frz]
@[go_sem] theorem Zn3 {n f a b} : refB n (.fn f a b) = (ZQ n a && ZQ n b) := by simp [refB]
@[go_sem] theorem ZoR {n x} : refB n (.p x) = true := by simp [refB]
@[go_sem] theorem Zka {n o off} : refB n (.ptr o off) = decide (o < n) := by simp [refB]
@[go_sem] theorem Zl6 {n o off l t} : refB n (.sl o off l t) = decide (o < n) := by simp [refB]
@[go_sem] theorem ZgH {n} : ZQ n [] = true := by simp [ZQ]
@[go_sem] theorem ZfN {n x l} : ZQ n (x :: l) = (refB n x && ZQ n l) := by simp [ZQ]
theorem Zdd {α : Type} {f : α -> PV} {S : Nat} (h : ∀ x, (f x).cells.length = S) (l : List α) : Zch S (l.map f) = true := by
 cases l with
 | nil => rfl
 | cons x l => simp [Zch, h]
theorem Zic (x y : Nat) (hx : x < 9223372036854775808) (hy : y < 9223372036854775808) : IntKind.i64.wrap ((BitVec.ofInt 64 (x : Int) ||| BitVec.ofInt 64 (y : Int)).toNat : Int) = ((x ||| y : Nat) : Int) := by
 have e : (BitVec.ofInt 64 (x : Int) ||| BitVec.ofInt 64 (y : Int)).toNat = x ||| y := by
  simp [BitVec.toNat_or, Nat.mod_eq_of_lt (show x < 18446744073709551616 by omega), Nat.mod_eq_of_lt (show y < 18446744073709551616 by omega)]
 have h : x ||| y < 2 ^ 63 := Nat.or_lt_two_pow (by omega) (by omega);rw [e];exact IntWalk.i64_in _ (by omega)
theorem ZeE (x y : Nat) (hx : x < 9223372036854775808) (hy : y < 9223372036854775808) : IntKind.i64.wrap ((BitVec.ofInt 64 (x : Int) &&& BitVec.ofInt 64 (y : Int)).toNat : Int) = ((x &&& y : Nat) : Int) := by
 have e : (BitVec.ofInt 64 (x : Int) &&& BitVec.ofInt 64 (y : Int)).toNat = x &&& y := by
  simp [BitVec.toNat_and, Nat.mod_eq_of_lt (show x < 18446744073709551616 by omega), Nat.mod_eq_of_lt (show y < 18446744073709551616 by omega)]
 have h : x &&& y <= x := Nat.and_le_left;rw [e];exact IntWalk.i64_in _ (by omega)
@[go_sem high] theorem Zcg {P : Program} {t : TypeId} {x y : Nat} (hx : x < 9223372036854775808) (hy : y < 9223372036854775808) : XM P .or t (.p (.int .i64 (x : Int))) (.p (.int .i64 (y : Int))) = some (.int .i64 ((x ||| y : Nat) : Int)) := by
 rw [Za0]; exact congrArg (fun q => some (PV.int .i64 q)) (Zic x y hx hy)
@[go_sem high] theorem Zht {P : Program} {t : TypeId} {x y : Nat} (hx : x < 9223372036854775808) (hy : y < 9223372036854775808) : XM P .and t (.p (.int .i64 (x : Int))) (.p (.int .i64 (y : Int))) = some (.int .i64 ((x &&& y : Nat) : Int)) := by
 rw [Zcv]; exact congrArg (fun q => some (PV.int .i64 q)) (ZeE x y hx hy)
def pw (k : Nat) : Nat := 2 ^ k
theorem Zbs (k : Nat) : pw (k + 1) = 2 * pw k := by simp [pw, Nat.pow_succ]; omega
theorem ZcU {k m : Nat} (h : k <= m) : pw k <= pw m := Nat.pow_le_pow_right (by omega) h
theorem Zje (k : Nat) : 0 < pw k := Nat.pow_pos (by omega)
theorem ZiP : pw 62 = 4611686018427387904 := by decide
@[go_sem high] theorem ZgZ {P : Program} {t : TypeId} {k'} {a : Int} (h0 : 0 <= a) (h1 : a <= 62) : XM P .shl t (.p (.int .i64 1)) (.p (.int k' a)) = some (.int .i64 ((pw a.toNat : Nat) : Int)) := by
 rw [Zb4 h0]
 have h2 : min a.toNat IntKind.i64.bits = a.toNat := by show min a.toNat 64 = a.toNat; omega
 rw [h2, Int.one_mul]
 have h3 : ((2 : Int) ^ a.toNat) = ((pw a.toNat : Nat) : Int) := by simp [pw]
 rw [h3];have := ZcU (show a.toNat <= 62 by omega);have := ZiP;rw [IntWalk.i64_in _ (by omega)]
attribute [go_sem] List.length_append List.map_append not_false_eq_true not_true_eq_false false_and and_false true_or or_true false_or or_false Classical.not_not Bool.false_eq_true Bool.and_false Bool.false_and
end Go.AM
namespace Go.AM
open Go.RowKit
theorem ZbJ {P ds frJ H} {K K' : List V -> Prop} : ∀ (l : List Oper) (i : Nat) (vals : List V), (∀ ys, ys.length = vals.length + l.length -> K ys -> K' ys) -> hd P ds frJ H K i l vals -> hd P ds frJ H K' i l vals
 | [], i, vals, hk, h => hk vals rfl h
 | o :: l, i, vals, hk, h => by
  have ih : ∀ y, hd P ds frJ H K (i + 1) l (vals ++ [y]) -> hd P ds frJ H K' (i + 1) l (vals ++ [y]) := fun y => ZbJ l (i + 1) (vals ++ [y]) fun ys hy => hk ys (by simp at hy ⊢; omega);simp only [hd] at h ⊢
  split at h
  ·obtain ⟨y, h1, h2⟩ := h;exact ⟨y, h1, ih y h2⟩
  ·unfold ZN at h ⊢
   split at h
   ·exact ⟨fun e => by obtain ⟨y, h1, h2⟩ := h.1 e; exact ⟨y, h1, ih y h2⟩, fun e => ih _ (h.2 e)⟩
   ·exact ih _ h
   ·exact h.elim
def Yg : List (Option Nat) -> List V -> List V -> List V
 | some d :: ds, v :: vals, fr => Yg ds vals (pt fr d v)
 | none :: ds, _ :: vals, fr => Yg ds vals fr
 | _, _, fr => fr
def exq (A : V -> Prop) (B : V -> Prop) : Prop := ∃ y, A y /\ B y
section
variable {P : Program} {ds : List (Option Nat)} {frJ : List V} {H : List Obj} {K : List V -> Prop} {i : Nat} {r : List Oper} {vals : List V} {d : Option Nat} {op : Op} {t : TypeId} {ps : String} {af : Array Edge}
@[go_sem ↓, go_sem] theorem Zo3 {v : V} {B : V -> Prop} {t} : exq (fun y => v = y) (Zs B t) = B v := by simp [exq, Zs]
theorem Zp {f azs} {z : PV} {B : V -> Prop} {t} (h : ACalls P f azs [] fun x H' => x = .p z /\ H' = []) (k : B (.p z)) (ha : ZQ 0 azs = true := by rfl) :
  exq (fun y => ACalls P f azs H (Zs (Zs (fun x H' => x = y /\ H' = H) ⟨⟩) ⟨⟩)) (Zs B t) :=
 ⟨.p z, h.use ⟨rfl, rfl⟩ ha, k⟩
end
section
variable {P : Program} {fr : List V} {H : List Obj} {k : V -> List Obj -> Prop} {d : Option Nat} {t : TypeId} {ps : String} {af : Array Edge} {g : Option (Nat × Bool)}
@[go_sem ↓] theorem ZfK {u n l} : Zj P ⟨d, .buildSlice u n (List.toArray l), t, ps, af, g⟩ fr H k = pst ((ZaJ (Jo P u) H n (l.map fun x => (x.1, ev fr x.2))).map .p) (Zs (fun v => k v H) ⟨⟩) := by
 simp only [Zj]
 cases (ZaJ (Jo P u) H n (l.map fun x => (x.1, ev fr x.2))) <;> simp [pst, Zs]
@[go_sem] theorem Zgd {S n l} : ZaJ (some S) H n l = if n = l.length /\ n * S <= 16777216 /\ 0 < S then (UF H S 0 l).map (.list false) else none := Eq.trans rfl rfl
@[go_sem ↓] theorem Zew {x} : Zj P ⟨d, .move x, t, ps, af, g⟩ fr H k = Zl P ⟨d, .move x, t, ps, af, g⟩ fr H k := rfl
@[go_sem ↓] theorem Zc0 {x} : Zj P ⟨d, .assign x, t, ps, af, g⟩ fr H k = Zl P ⟨d, .assign x, t, ps, af, g⟩ fr H k := rfl
@[go_sem ↓] theorem ZeU {x y z} : Zj P ⟨d, .pick x y z, t, ps, af, g⟩ fr H k = Zl P ⟨d, .pick x y z, t, ps, af, g⟩ fr H k := rfl
@[go_sem ↓] theorem ZdP {x} : Zj P ⟨d, .alloc x, t, ps, af, g⟩ fr H k = Zl P ⟨d, .alloc x, t, ps, af, g⟩ fr H k := rfl
@[go_sem ↓] theorem ZfY {x y} : Zj P ⟨d, .box x y, t, ps, af, g⟩ fr H k = Zl P ⟨d, .box x y, t, ps, af, g⟩ fr H k := rfl
@[go_sem ↓] theorem Zdx {x y} : Zj P ⟨d, .build x y, t, ps, af, g⟩ fr H k = Zl P ⟨d, .build x y, t, ps, af, g⟩ fr H k := rfl
@[go_sem ↓] theorem Zfp {x y} : Zj P ⟨d, .load x y, t, ps, af, g⟩ fr H k = Zl P ⟨d, .load x y, t, ps, af, g⟩ fr H k := rfl
@[go_sem ↓] theorem ZdV {x y z} : Zj P ⟨d, .store x y z, t, ps, af, g⟩ fr H k = Zl P ⟨d, .store x y z, t, ps, af, g⟩ fr H k := rfl
@[go_sem ↓] theorem ZaC {x} : Zj P ⟨d, .nilCheck x, t, ps, af, g⟩ fr H k = Zl P ⟨d, .nilCheck x, t, ps, af, g⟩ fr H k := rfl
@[go_sem ↓] theorem ZdB {x y z u v} : Zj P ⟨d, .binOp x y z u v, t, ps, af, g⟩ fr H k = Zl P ⟨d, .binOp x y z u v, t, ps, af, g⟩ fr H k := rfl
@[go_sem ↓] theorem Zfv {x y z} : Zj P ⟨d, .unOp x y z, t, ps, af, g⟩ fr H k = Zl P ⟨d, .unOp x y z, t, ps, af, g⟩ fr H k := rfl
@[go_sem ↓] theorem Zb1 {x y z} : Zj P ⟨d, .convert x y z, t, ps, af, g⟩ fr H k = Zl P ⟨d, .convert x y z, t, ps, af, g⟩ fr H k := rfl
@[go_sem ↓] theorem Zbj {x y z} : Zj P ⟨d, .makeFunc x y z, t, ps, af, g⟩ fr H k = Zl P ⟨d, .makeFunc x y z, t, ps, af, g⟩ fr H k := rfl
@[go_sem ↓] theorem K1 {x y z} : Zj P ⟨d, .makeSlice x y z, t, ps, af, g⟩ fr H k = Zl P ⟨d, .makeSlice x y z, t, ps, af, g⟩ fr H k := rfl
@[go_sem ↓] theorem ZdU {x y z u v} : Zj P ⟨d, .slice x y z u v, t, ps, af, g⟩ fr H k = Zl P ⟨d, .slice x y z u v, t, ps, af, g⟩ fr H k := rfl
@[go_sem ↓] theorem K3 {x y z} : Zj P ⟨d, .fieldAddr x y z, t, ps, af, g⟩ fr H k = Zl P ⟨d, .fieldAddr x y z, t, ps, af, g⟩ fr H k := rfl
@[go_sem ↓] theorem ZdC {x y z} : Zj P ⟨d, .field x y z, t, ps, af, g⟩ fr H k = Zl P ⟨d, .field x y z, t, ps, af, g⟩ fr H k := rfl
@[go_sem ↓] theorem K5 {x y z} : Zj P ⟨d, .indexAddr x y z, t, ps, af, g⟩ fr H k = Zl P ⟨d, .indexAddr x y z, t, ps, af, g⟩ fr H k := rfl
@[go_sem ↓] theorem Zd2 {x y z} : Zj P ⟨d, .index x y z, t, ps, af, g⟩ fr H k = Zl P ⟨d, .index x y z, t, ps, af, g⟩ fr H k := rfl
@[go_sem ↓] theorem ZbZ {x y} : Zj P ⟨d, .extract x y, t, ps, af, g⟩ fr H k = Zl P ⟨d, .extract x y, t, ps, af, g⟩ fr H k := rfl
@[go_sem ↓] theorem Zev {x y z} : Zj P ⟨d, .call ⟨.value x, y, z⟩, t, ps, af, g⟩ fr H k = Zl P ⟨d, .call ⟨.value x, y, z⟩, t, ps, af, g⟩ fr H k := rfl
@[go_sem ↓] theorem ZfI {y z} : Zj P ⟨d, .call ⟨.builtin .len, y, z⟩, t, ps, af, g⟩ fr H k = Zl P ⟨d, .call ⟨.builtin .len, y, z⟩, t, ps, af, g⟩ fr H k := rfl
@[go_sem ↓] theorem ZfQ {y z} : Zj P ⟨d, .call ⟨.builtin .max, y, z⟩, t, ps, af, g⟩ fr H k = Zl P ⟨d, .call ⟨.builtin .max, y, z⟩, t, ps, af, g⟩ fr H k := rfl
@[go_sem ↓] theorem Zgp {y z} : Zj P ⟨d, .call ⟨.builtin .min, y, z⟩, t, ps, af, g⟩ fr H k = Zl P ⟨d, .call ⟨.builtin .min, y, z⟩, t, ps, af, g⟩ fr H k := rfl
theorem QE {o fr' H'} (h : fr = fr') (h2 : H = H') : Zj P o fr H k = Zj P o fr' H' k := by rw [h, h2]
end
attribute [congr] QE
attribute [go_sem] List.filter_cons List.filter_nil
end Go.AM
namespace Go.AM
open Go.RowKit
abbrev KH : Nat -> Prop := fun _ => False
theorem ZcM {b : Nat} : ¬ Own KH [] b := by simp [Own]
theorem JQ {w : World} (he : Env KH [] w) : Rel KH [] [] w := ⟨⟨rfl, fun b hb => hb.elim, fun i j b hi => by simp at hi, fun i b hi => by simp at hi, fun o cs ho => by simp at ho, fun o S xs ho => by simp at ho, fun o es ho => by simp at ho, fun o T E r bs ho => by simp at ho⟩, he⟩
attribute [go_sem] Option.map_none
end Go.AM
set_option linter.unusedVariables false
set_option linter.unusedSimpArgs false
namespace Go.Proofs.YtkhgmjdijnmhbaaDoor.K
open Go Go.AM
def tot (l : List Nat) : Nat := l.foldr (· + ·) 0
end Go.Proofs.YtkhgmjdijnmhbaaDoor.K
