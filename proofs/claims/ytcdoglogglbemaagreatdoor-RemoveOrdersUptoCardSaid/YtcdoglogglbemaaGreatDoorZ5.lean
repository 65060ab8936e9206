/- Declarations that the closing texts need, part 5: joined by tools/slim.py. -/
import Derived.Test.YtcdoglogglbemaaGreatDoorZ4
set_option linter.unusedVariables false
set_option linter.unusedSimpArgs false
universe u
namespace Go.AM
open Go.RowKit
structure Tk {α : Sort u} (a : α) : Type where
def hide {α : Sort u} (a : α) (_ : Tk a) : α := a
@[go_sem] theorem hide_app1 {α β : Type} {f : α → β} {t x} : hide f t x = f x := Eq.trans rfl rfl
@[go_sem ↓] theorem hide_app2 {α β : Type} {f : α → β → Prop} {t x y} : hide f t x y = f x y := Eq.trans rfl rfl
@[go_sem ↓] theorem hide_app3 {α β γ : Type} {f : α → β → γ → Prop} {t x y z} : hide f t x y z = f x y z := Eq.trans rfl rfl
def pst (x : Option V) (K : V → Prop) : Prop := match x with | some v => K v | none => False
def mst (x : Option (V × List Obj)) (K : V → List Obj → Prop) : Prop := match x with | some (v, H) => K v H | none => False
def bst (x : V) (K : Bool → Prop) : Prop := match x with | .p (.bool b) => K b | _ => False
def hst (x : Option (List Obj)) (K : List Obj → Prop) : Prop := match x with | some H => K H | none => False
@[go_sem ↓, go_sem] theorem pst_some {v K} : pst (some v) K = K v := Eq.trans rfl rfl
@[go_sem ↓, go_sem] theorem mst_some {v H K} : mst (some (v, H)) K = K v H := Eq.trans rfl rfl
@[go_sem ↓, go_sem] theorem hst_some {H K} : hst (some H) K = K H := Eq.trans rfl rfl
@[congr] theorem pst_congr {x x' K} (h : x = x') : pst x K = pst x' K := by rw [h]
@[congr] theorem mst_congr {x x' K} (h : x = x') : mst x K = mst x' K := by rw [h]
@[congr] theorem hst_congr {x x' K} (h : x = x') : hst x K = hst x' K := by rw [h]
def idF (fr : List V) : List V := fr
@[go_sem] theorem idF_eq {fr} : idF fr = fr := Eq.trans rfl rfl
section code
variable {cuts : List Nat} {P : Program} {fr : List V} {H : List Obj} {Q : Exit → List V → List Obj → Prop}
@[go_sem ↓] theorem awp_eskip : awp cuts P .skip fr H Q = Q .normal fr H := Eq.trans rfl rfl
@[go_sem ↓] theorem awp_eregion {id} {l : List Oper} : awp cuts P (.region id l.toArray false) fr H Q = aops P (l.map (·.dst)) l (idF fr) H (hide (Q .normal) ⟨⟩) := by simp [awp, idF, hide]
@[go_sem ↓] theorem awp_edrawn {id ops} : awp cuts P (.region id ops true) fr H Q = AWP P (.region id (hide ops ⟨⟩) true) fr H (hide Q ⟨⟩) := by simp [awp, hide]
@[go_sem ↓] theorem awp_eseq {x y} : awp [] P (.seq x y) fr H Q = awp [] P x fr H (thenA (fun fr H => awp [] P y fr H Q) Q) := by
 rw [awp]; cases hid x <;> simp
def seqA (b : Bool) (A B : Prop) : Prop := if b then A else B
def cutAt (cuts : List Nat) : Option Nat → Bool
 | some i => cuts.contains i
 | none => false
@[go_sem ↓] theorem awp_eseqc {k x y} : awp (k :: cuts) P (.seq x y) fr H Q = seqA (cutAt (k :: cuts) (hid x)) (hide (AWP P (.seq (hide x ⟨⟩) (hide y ⟨⟩)) fr H (hide Q ⟨⟩)) ⟨⟩) (hide (awp (k :: cuts) P x fr H (thenA (fun fr H => awp (k :: cuts) P y fr H Q) Q)) ⟨⟩) := by
 rw [awp]; cases hid x <;> simp [seqA, cutAt, hide]
@[go_sem ↓, go_sem] theorem seqA_true {A B : Prop} {t} : seqA true (hide A t) B = A := by simp [seqA, hide]
@[go_sem ↓, go_sem] theorem seqA_false {A B : Prop} {t} : seqA false A (hide B t) = B := by simp [seqA, hide]
theorem seqA_congr {b b' A B} (h : b = b') : seqA b A B = seqA b' A B := by rw [h]
@[go_sem ↓] theorem hid_region {id ops d} : hid (.region id ops d) = some id := Eq.trans rfl rfl
@[go_sem ↓] theorem hid_seq {x y} : hid (.seq x y) = hid x := Eq.trans rfl rfl
@[go_sem ↓] theorem hid_block {id c} : hid (.block id c) = hid c := Eq.trans rfl rfl
@[go_sem ↓] theorem hid_cond {c x y} : hid (.cond c x y) = none := Eq.trans rfl rfl
@[go_sem] theorem cutAt_none : cutAt cuts none = false := Eq.trans rfl rfl
@[go_sem] theorem cutAt_nil {i} : cutAt [] (some i) = false := Eq.trans rfl rfl
@[go_sem] theorem cutAt_cons {k i} : cutAt (k :: cuts) (some i) = (decide (i = k) || cutAt cuts (some i)) := by by_cases h : i = k <;> simp [cutAt, h]
@[go_sem ↓] theorem awp_econd {c x y} : awp cuts P (.cond c x y) fr H Q = acond (ev fr c) (hide (awp cuts P x fr H Q) ⟨⟩) (hide (awp cuts P y fr H Q) ⟨⟩) := Eq.trans rfl rfl
@[go_sem ↓] theorem awp_eblock {id c} : awp cuts P (.block id c) fr H Q = awp cuts P c fr H (blockA id Q) := Eq.trans rfl rfl
@[go_sem ↓] theorem awp_eexit {id} : awp cuts P (.exit id) fr H Q = Q (.exit id) fr H := Eq.trans rfl rfl
@[go_sem ↓] theorem awp_eret : awp cuts P .ret fr H Q = Q .ret fr H := Eq.trans rfl rfl
@[go_sem ↓] theorem awp_eloop {c} : awp cuts P (.loop c) fr H Q = AWP P (.loop (hide c ⟨⟩)) fr H (hide Q ⟨⟩) := Eq.trans rfl rfl
@[go_sem ↓] theorem awp_ehide {c t} : awp cuts P (hide c t) fr H Q = awp cuts P c fr H Q := Eq.trans rfl rfl
theorem awp_congr {c fr' H'} (h : fr = fr') (h2 : H = H') : awp cuts P c fr H Q = awp cuts P c fr' H' Q := by rw [h, h2]
theorem AWP_congr {c fr' H'} (h : fr = fr') (h2 : H = H') : AWP P c fr H Q = AWP P c fr' H' Q := by rw [h, h2]
@[go_sem ↓] theorem thenA_normal {A : List V → List Obj → Prop} : thenA A Q .normal fr H = A fr H := Eq.trans rfl rfl
@[go_sem ↓] theorem thenA_exit {A : List V → List Obj → Prop} {id} : thenA A Q (.exit id) fr H = Q (.exit id) fr H := Eq.trans rfl rfl
@[go_sem ↓] theorem thenA_ret {A : List V → List Obj → Prop} : thenA A Q .ret fr H = Q .ret fr H := Eq.trans rfl rfl
@[go_sem ↓] theorem blockA_normal {id} : blockA id Q .normal fr H = Q .normal fr H := Eq.trans rfl rfl
@[go_sem ↓] theorem blockA_ret {id} : blockA id Q .ret fr H = Q .ret fr H := Eq.trans rfl rfl
@[go_sem ↓] theorem blockA_exit {id id'} : blockA id Q (.exit id') fr H = if id' = id then Q .normal fr H else Q (.exit id') fr H := Eq.trans rfl rfl
theorem thenA_congr {A : List V → List Obj → Prop} {e fr' H'} (h : fr = fr') (h2 : H = H') : thenA A Q e fr H = thenA A Q e fr' H' := by rw [h, h2]
theorem blockA_congr {id e fr' H'} (h : fr = fr') (h2 : H = H') : blockA id Q e fr H = blockA id Q e fr' H' := by rw [h, h2]
@[go_sem ↓] theorem retA_normal {rs} {Q : V → List Obj → Prop} : retA P rs Q .normal fr H = mst ((resAll P fr H rs).map fun xs => (resOne xs, H)) (hide Q ⟨⟩) := by
 simp only [retA, hide]; split <;> simp_all [mst]
@[go_sem ↓] theorem retA_ret {rs} {Q : V → List Obj → Prop} : retA P rs Q .ret fr H = mst ((resAll P fr H rs).map fun xs => (resOne xs, H)) (hide Q ⟨⟩) := by
 simp only [retA, hide]; split <;> simp_all [mst]
theorem retA_congr {rs e fr' H'} {Q : V → List Obj → Prop} (h : fr = fr') (h2 : H = H') : retA P rs Q e fr H = retA P rs Q e fr' H' := by rw [h, h2]
@[go_sem] theorem resAll_nil : resAll P fr H [] = some [] := Eq.trans rfl rfl
@[go_sem] theorem resAll_tmp {t l} : resAll P fr H (.tmp t :: l) = (resAll P fr H l).map (gt fr t :: ·) := by
 simp only [resAll, resV]; cases resAll P fr H l <;> rfl
@[go_sem] theorem resAll_cell {a t l} : resAll P fr H (.cell a t :: l) = (aload P H t (gt fr a)).bind fun x => (resAll P fr H l).map (x :: ·) := by
 simp only [resAll, resV]; cases aload P H t (gt fr a) <;> cases resAll P fr H l <;> rfl
@[go_sem] theorem resOne_one {x} : resOne [x] = x := Eq.trans rfl rfl
@[go_sem] theorem resOne_none : resOne [] = .tup [] := Eq.trans rfl rfl
@[go_sem] theorem resOne_two {x y l} : resOne (x :: y :: l) = .tup (x :: y :: l) := Eq.trans rfl rfl
end code
attribute [congr] seqA_congr awp_congr AWP_congr thenA_congr blockA_congr retA_congr
@[go_sem] theorem gt_zero {x : V} {l} : gt (x :: l) 0 = x := Eq.trans rfl rfl
@[go_sem] theorem gt_succ {x : V} {l n} : gt (x :: l) (n + 1) = gt l n := Eq.trans rfl rfl
@[go_sem] theorem gt_nil {n} : gt [] n = .junk := Eq.trans rfl rfl
@[go_sem] theorem pt_zero {x v : V} {l} : pt (x :: l) 0 v = v :: l := Eq.trans rfl rfl
@[go_sem] theorem pt_succ {x v : V} {l n} : pt (x :: l) (n + 1) v = x :: pt l n v := Eq.trans rfl rfl
@[go_sem] theorem ptO_some {fr d v} : ptO fr (some d) v = pt fr d v := Eq.trans rfl rfl
@[go_sem] theorem ptO_none {fr v} : ptO fr none v = fr := Eq.trans rfl rfl
@[go_sem] theorem oat_zero {x : Obj} {l} : oat (x :: l) 0 = x := Eq.trans rfl rfl
@[go_sem] theorem oat_succ {x : Obj} {l n} : oat (x :: l) (n + 1) = oat l n := Eq.trans rfl rfl
@[go_sem] theorem ost_zero {x v : Obj} {l} : ost (x :: l) 0 v = v :: l := Eq.trans rfl rfl
@[go_sem] theorem ost_succ {x v : Obj} {l n} : ost (x :: l) (n + 1) v = x :: ost l n v := Eq.trans rfl rfl
@[go_sem] theorem evx_tmp {fr t} : evx fr (.tmp t) = gt fr t := Eq.trans rfl rfl
@[go_sem] theorem ev_tmp {fr t} : ev fr (.tmp t) = gt fr t := Eq.trans rfl rfl
@[go_sem] theorem ev_func {fr f} : ev fr (.func f) = .fn (.func f) [] [] := Eq.trans rfl rfl
@[go_sem] theorem ev_int {fr k n} : ev fr (.const (.int k n)) = .p (.int k n) := Eq.trans rfl rfl
@[go_sem] theorem ev_bool {fr b} : ev fr (.const (.bool b)) = .p (.bool b) := Eq.trans rfl rfl
@[go_sem] theorem ev_str {fr s} : ev fr (.const (.string s)) = .p (.str s.data.toList) := Eq.trans rfl rfl
@[go_sem] theorem ev_nils {fr} : ev fr (.const (.slice none 0 0)) = .p (.list true []) := Eq.trans rfl rfl
@[go_sem] theorem ev_agg {fr l} : ev fr (.const (.agg (List.toArray l))) = match cvs l with | some xs => .p (.agg xs) | none => .junk := Eq.trans rfl rfl
@[go_sem] theorem gAt_zero {fr d} {l : List (Option Nat)} : gAt fr (some d :: l) 0 = gt fr d := by simp [gAt]
@[go_sem] theorem gAt_succ {fr o n} {l : List (Option Nat)} : gAt fr (o :: l) (n + 1) = gAt fr l n := by simp [gAt]
section ops
variable {P : Program} {fr : List V} {H : List Obj} {ds : List (Option Nat)} {K : List V → List Obj → Prop} {r : List Oper} {d : Option Nat} {t : TypeId} {ps : String} {af : Array Edge} {g : Option (Nat × Bool)} {k : V → List Obj → Prop}
theorem aops_congr {l fr' H'} (h : fr = fr') (h2 : H = H') : aops P ds l fr H K = aops P ds l fr' H' K := by rw [h, h2]
theorem astep_congr {o fr' H'} (h : fr = fr') (h2 : H = H') : astep P o fr H k = astep P o fr' H' k := by rw [h, h2]
@[go_sem ↓] theorem aops_nil : aops P ds [] fr H K = K fr H := Eq.trans rfl rfl
@[go_sem] theorem aops_cons {op} : aops P ds (⟨d, op, t, ps, af, none⟩ :: r) fr H K = astep P ⟨d, op, t, ps, af, none⟩ fr H (hide (fun x H' => aops P ds r (ptO fr d x) H' K) ⟨⟩) := Eq.trans rfl rfl
@[go_sem] theorem aops_guard {op j b} : aops P ds (⟨d, op, t, ps, af, some (j, b)⟩ :: r) fr H K = aguard (gAt fr ds j) b (hide (astep P ⟨d, op, t, ps, af, none⟩ fr H (hide (fun x H' => aops P ds r (ptO fr d x) H' K) ⟨⟩)) ⟨⟩) (hide (aops P ds r (ptO fr d (.tup [])) H K) ⟨⟩) := by
 simp only [aops, hide]
 unfold aguard
 split <;> rfl
theorem astep_pure {op : Op} (h : callOf op = none) (h2 : amem P op fr H = none) : astep P ⟨d, op, t, ps, af, g⟩ fr H k = pst (apure2 P op fr H) fun x => k x H := by
 simp only [astep, h, aop, h2]
 all_goals (cases apure2 P op fr H <;> rfl)
theorem astep_mem {op : Op} (h : callOf op = none) (h2 : apure2 P op fr H = none) : astep P ⟨d, op, t, ps, af, g⟩ fr H k = mst (amem P op fr H) k := by
 simp only [astep, h, aop, h2, mst]
 all_goals (cases amem P op fr H <;> rfl)
@[go_sem ↓] theorem astep_move {x} : astep P ⟨d, .move x, t, ps, af, g⟩ fr H k = k (ev fr x) H := by rw [astep_pure rfl rfl]; rfl
@[go_sem ↓] theorem astep_assign {x} : astep P ⟨d, .assign x, t, ps, af, g⟩ fr H k = k (ev fr x) H := by rw [astep_pure rfl rfl]; rfl
def vif (b : Bool) (x y : V) : V := if b then x else y
@[go_sem] theorem vif_true {x y} : vif true x y = x := Eq.trans rfl rfl
@[go_sem] theorem vif_false {x y} : vif false x y = y := Eq.trans rfl rfl
@[go_sem] theorem vif_bool {b x y} : vif b (.p (.bool x)) (.p (.bool y)) = .p (.bool (if b then x else y)) := by cases b <;> rfl
@[go_sem] theorem asB_bool {b} : asB (.p (.bool b)) = some b := Eq.trans rfl rfl
@[go_sem ↓] theorem astep_pick {c x y} : astep P ⟨d, .pick c x y, t, ps, af, g⟩ fr H k = pst ((asB (ev fr c)).map fun b => vif b (ev fr x) (ev fr y)) (hide (fun v => k v H) ⟨⟩) := by
 rw [astep_pure rfl rfl]
 simp only [apure2, apure]
 cases asB (ev fr c) <;> rfl
@[go_sem ↓] theorem astep_load {u x} : astep P ⟨d, .load u x, t, ps, af, g⟩ fr H k = pst (aload P H u (ev fr x)) (hide (fun v => k v H) ⟨⟩) := by rw [astep_pure rfl rfl]; rfl
@[go_sem ↓] theorem astep_bin {op u x y u2} : astep P ⟨d, .binOp op u x y u2, t, ps, af, g⟩ fr H k = pst ((abin P op u (ev fr x) (ev fr y)).map .p) (hide (fun v => k v H) ⟨⟩) := by rw [astep_pure rfl rfl]; rfl
@[go_sem ↓] theorem astep_un {op u x} : astep P ⟨d, .unOp op u x, t, ps, af, g⟩ fr H k = pst ((aun op (ev fr x)).map .p) (hide (fun v => k v H) ⟨⟩) := by rw [astep_pure rfl rfl]; rfl
def oelse (x y : Option PV) : Option PV := match x with | some z => some z | none => y
@[go_sem] theorem oelse_some {z y} : oelse (some z) y = some z := Eq.trans rfl rfl
@[go_sem] theorem oelse_none {y} : oelse none y = y := Eq.trans rfl rfl
@[go_sem ↓] theorem astep_conv {s u x} : astep P ⟨d, .convert s u x, t, ps, af, g⟩ fr H k = pst ((oelse (abytes P H s u (ev fr x)) (aconv P s u (ev fr x))).map .p) (hide (fun v => k v H) ⟨⟩) := by
 rw [astep_pure rfl rfl]
 simp only [apure2, apure]
 cases abytes P H s u (ev fr x) <;> rfl
@[go_sem ↓] theorem astep_makeFunc {f cs es} : astep P ⟨d, .makeFunc f (List.toArray cs) (List.toArray es), t, ps, af, g⟩ fr H k = k (.fn f (cs.map (ev fr)) (es.map (ev fr))) H := by rw [astep_pure rfl rfl]; rfl
@[go_sem ↓] theorem astep_slice {u x lo hi mx} : astep P ⟨d, .slice u x lo hi mx, t, ps, af, g⟩ fr H k = pst (aslice P H u fr (ev fr x) lo hi mx) (hide (fun v => k v H) ⟨⟩) := by rw [astep_pure rfl rfl]; rfl
@[go_sem ↓] theorem astep_fieldAddr {s x f} : astep P ⟨d, .fieldAddr s x f, t, ps, af, g⟩ fr H k = pst (afield P H s f (ev fr x)) (hide (fun v => k v H) ⟨⟩) := by rw [astep_pure rfl rfl]; rfl
@[go_sem ↓] theorem astep_indexAddr {u x i} : astep P ⟨d, .indexAddr u x i, t, ps, af, g⟩ fr H k = pst (aindex P H u (evx fr x) (ev fr i)) (hide (fun v => k v H) ⟨⟩) := by rw [astep_pure rfl rfl]; rfl
@[go_sem ↓] theorem astep_index {u x i} : astep P ⟨d, .index u x i, t, ps, af, g⟩ fr H k = pst (aidxv P u (ev fr x) (ev fr i)) (hide (fun v => k v H) ⟨⟩) := by rw [astep_pure rfl rfl]; rfl
def axt (x : V) (i : Nat) : Option V := match x with | .tup vs => vs[i]? | _ => none
@[go_sem] theorem axt_tup {vs i} : axt (.tup vs) i = vs[i]? := Eq.trans rfl rfl
@[go_sem ↓] theorem astep_extract {x i} : astep P ⟨d, .extract x i, t, ps, af, g⟩ fr H k = pst (axt (ev fr x) i) (hide (fun v => k v H) ⟨⟩) := by
 rw [astep_pure rfl rfl]
 simp only [apure2, apure]
 cases ev fr x <;> rfl
@[go_sem ↓] theorem astep_build {u l} : astep P ⟨d, .build u (List.toArray l), t, ps, af, g⟩ fr H k = pst (abuild P H u (l.map fun x => (x.1, ev fr x.2))) (hide (fun v => k v H) ⟨⟩) := by rw [astep_pure rfl rfl]; rfl
@[go_sem ↓] theorem astep_len {x u} : astep P ⟨d, .call ⟨.builtin .len, #[x], #[u]⟩, t, ps, af, g⟩ fr H k = pst ((alen P H u (ev fr x)).map .p) (hide (fun v => k v H) ⟨⟩) := by rw [astep_pure rfl rfl]; rfl
@[go_sem ↓] theorem astep_max {x y us} : astep P ⟨d, .call ⟨.builtin .max, #[x, y], us⟩, t, ps, af, g⟩ fr H k = pst ((amax false [ev fr x, ev fr y]).map .p) (hide (fun v => k v H) ⟨⟩) := by
 rw [astep_pure rfl rfl]; simp only [apure2, apure, abuilt]; rfl
@[go_sem ↓] theorem astep_min {x y us} : astep P ⟨d, .call ⟨.builtin .min, #[x, y], us⟩, t, ps, af, g⟩ fr H k = pst ((amax true [ev fr x, ev fr y]).map .p) (hide (fun v => k v H) ⟨⟩) := by
 rw [astep_pure rfl rfl]; simp only [apure2, apure, abuilt]; rfl
@[go_sem ↓] theorem astep_alloc {u} : astep P ⟨d, .alloc u, t, ps, af, g⟩ fr H k = mst ((zcells P u).map fun zs => (.ptr H.length 0, H ++ [.cells (zs.map .p)])) (hide k ⟨⟩) := by rw [astep_mem rfl rfl]; rfl
@[go_sem ↓] theorem astep_box {u x} : astep P ⟨d, .box u x, t, ps, af, g⟩ fr H k = mst ((vc H (ev fr x)).map fun cs => (.ptr H.length 0, H ++ [.cells cs])) (hide k ⟨⟩) := by rw [astep_mem rfl rfl]; rfl
def astr (H : List Obj) (n : Option Nat) (a : V) (cs : Option (List V)) : Option (List Obj) := n.bind fun n => cs.bind fun cs => astore H n a cs
@[go_sem] theorem astr_some {n a cs} : astr H (some n) a (some cs) = astore H n a cs := Eq.trans rfl rfl
@[go_sem ↓] theorem astep_store {u x y} : astep P ⟨d, .store u x y, t, ps, af, g⟩ fr H k = hst (astr H (tsz P u) (ev fr x) (vc H (ev fr y))) (hide (k .junk) ⟨⟩) := by
 rw [astep_mem rfl rfl]
 simp only [amem, astr]
 cases tsz P u <;> cases vc H (ev fr y) <;> simp [hst, mst, hide]
 cases astore H _ (ev fr x) _ <;> rfl
@[go_sem ↓] theorem astep_buildSlice {u n l} : astep P ⟨d, .buildSlice u n (List.toArray l), t, ps, af, g⟩ fr H k = mst (amem P (.buildSlice u n (List.toArray l)) fr H) (hide k ⟨⟩) := by rw [astep_mem rfl rfl]; rfl
@[go_sem ↓] theorem astep_makeMap {u} : astep P ⟨d, .makeMap u none, t, ps, af, g⟩ fr H k = k (.mp H.length) (H ++ [.map []]) := by rw [astep_mem rfl rfl]; rfl
@[go_sem ↓] theorem astep_lookup {u x y ok} : astep P ⟨d, .lookup u x y ok, t, ps, af, g⟩ fr H k = mst (alook P H u (ev fr x) (ev fr y) ok) (hide k ⟨⟩) := by rw [astep_mem rfl rfl]; rfl
@[go_sem ↓] theorem astep_mput {u x y z} : astep P ⟨d, .mapUpdate u x y z, t, ps, af, g⟩ fr H k = mst (amput P H u (ev fr x) (ev fr y) (ev fr z)) (hide k ⟨⟩) := by rw [astep_mem rfl rfl]; rfl
@[go_sem ↓] theorem astep_makeSlice {u x y} : astep P ⟨d, .makeSlice u x y, t, ps, af, g⟩ fr H k = mst (amem P (.makeSlice u x y) fr H) (hide k ⟨⟩) := by rw [astep_mem rfl rfl]; rfl
@[go_sem ↓] theorem astep_clear {x u} : astep P ⟨d, .call ⟨.builtin .clear, #[x], #[u]⟩, t, ps, af, g⟩ fr H k = mst (aclear P H u (ev fr x)) (hide k ⟨⟩) := by rw [astep_mem rfl rfl]; rfl
@[go_sem ↓] theorem astep_append {x y u u2} : astep P ⟨d, .call ⟨.builtin .append, #[x, y], #[u, u2]⟩, t, ps, af, g⟩ fr H k = mst (aapp P H u u2 (ev fr x) (ev fr y)) (hide k ⟨⟩) := by rw [astep_mem rfl rfl]; rfl
@[go_sem ↓] theorem astep_call {f azs ts} : astep P ⟨d, .call ⟨.value f, List.toArray azs, ts⟩, t, ps, af, g⟩ fr H k = acall P (ev fr f) (azs.map (ev fr)) H (hide k ⟨⟩) := Eq.trans rfl rfl
@[go_sem ↓] theorem acall_fn {f fs cs azs} : acall P (.fn (.func f) fs cs) azs H k = ACalls P f (fs ++ azs ++ cs) H k := Eq.trans rfl rfl
@[go_sem ↓] theorem acall_pfn {f azs} : acall P (.p (.fn f)) azs H k = ACalls P f azs H k := Eq.trans rfl rfl
theorem acall_congr {f f' azs as'} (h : f = f') (h2 : azs = as') : acall P f azs H k = acall P f' as' H k := by rw [h, h2]
theorem ACalls_congr {f azs as' H'} (h2 : azs = as') (h3 : H = H') : ACalls P f azs H k = ACalls P f as' H' k := by rw [h2, h3]
theorem acond_congr {x x' A B} (h : x = x') : acond x A B = acond x' A B := by rw [h]
theorem aguard_congr {x x' b A B} (h : x = x') : aguard x b A B = aguard x' b A B := by rw [h]
@[go_sem ↓, go_sem] theorem acond_true {A : Prop} {t B'} : acond (.p (.bool true)) (hide A t) B' = A := by simp [acond, hide]
@[go_sem ↓, go_sem] theorem acond_false {B : Prop} {t B'} : acond (.p (.bool false)) B' (hide B t) = B := by simp [acond, hide]
@[go_sem ↓, go_sem] theorem aguard_tt {A : Prop} {t B} : aguard (.p (.bool true)) true (hide A t) B = A := by simp [aguard, hide]
@[go_sem ↓, go_sem] theorem aguard_tf {B : Prop} {t A} : aguard (.p (.bool true)) false A (hide B t) = B := by simp [aguard, hide]
@[go_sem ↓, go_sem] theorem aguard_ft {B : Prop} {t A} : aguard (.p (.bool false)) true A (hide B t) = B := by simp [aguard, hide]
@[go_sem ↓, go_sem] theorem aguard_ff {A : Prop} {t B} : aguard (.p (.bool false)) false (hide A t) B = A := by simp [aguard, hide]
@[go_sem ↓, go_sem] theorem aguard_skip {b} {B : Prop} {t A} : aguard (.tup []) b A (hide B t) = B := by simp [aguard, hide]
theorem acond_b {c : Bool} {A B : Prop} {t t'} (h1 : c = true → A) (h2 : c = false → B) : acond (.p (.bool c)) (hide A t) (hide B t') := ⟨h1, h2⟩
theorem aguard_t {c : Bool} {A B : Prop} {t t'} (h1 : c = true → A) (h2 : c = false → B) : aguard (.p (.bool c)) true (hide A t) (hide B t') := ⟨h1, fun h => h2 (by simpa using h)⟩
theorem aguard_f {c : Bool} {A B : Prop} {t t'} (h1 : c = true → B) (h2 : c = false → A) : aguard (.p (.bool c)) false (hide A t) (hide B t') := ⟨h2, fun h => h1 (by simpa using h)⟩
@[go_sem] theorem not_dec {p : Prop} [Decidable p] : (!decide p) = decide (¬p) := by simp
end ops
attribute [congr] aops_congr astep_congr acall_congr ACalls_congr acond_congr aguard_congr
section vals
variable {P : Program} {H : List Obj} {k : IntKind} {t u : TypeId}
@[go_sem] theorem abin_add {a b} : abin P .add t (.p (.int k a)) (.p (.int k b)) = some (.int k (k.wrap (a + b))) := by simp [abin, ibin]
@[go_sem] theorem abin_sub {a b} : abin P .sub t (.p (.int k a)) (.p (.int k b)) = some (.int k (k.wrap (a - b))) := by simp [abin, ibin]
@[go_sem] theorem abin_mul {a b} : abin P .mul t (.p (.int k a)) (.p (.int k b)) = some (.int k (k.wrap (a * b))) := by simp [abin, ibin]
@[go_sem] theorem abin_quo {a b} (h : b ≠ 0) : abin P .quo t (.p (.int k a)) (.p (.int k b)) = some (.int k (k.wrap (a.tdiv b))) := by simp [abin, ibin, h]
@[go_sem] theorem abin_rem {a b} (h : b ≠ 0) : abin P .rem t (.p (.int k a)) (.p (.int k b)) = some (.int k (a.tmod b)) := by simp [abin, ibin, h]
@[go_sem] theorem abin_and {a b} : abin P .and t (.p (.int k a)) (.p (.int k b)) = some (.int k (k.wrap ((BitVec.ofInt k.bits a &&& BitVec.ofInt k.bits b).toNat : Int))) := by simp [abin, ibin]
@[go_sem] theorem abin_or {a b} : abin P .or t (.p (.int k a)) (.p (.int k b)) = some (.int k (k.wrap ((BitVec.ofInt k.bits a ||| BitVec.ofInt k.bits b).toNat : Int))) := by simp [abin, ibin]
@[go_sem] theorem abin_andNot {a b} : abin P .andNot t (.p (.int k a)) (.p (.int k b)) = some (.int k (k.wrap ((BitVec.ofInt k.bits a &&& ~~~(BitVec.ofInt k.bits b)).toNat : Int))) := by simp [abin, ibin]
@[go_sem] theorem abin_eql {a b} : abin P .eql t (.p (.int k a)) (.p (.int k b)) = some (.bool (decide (a = b))) := by simp [abin, ibin]
@[go_sem] theorem abin_neq {a b} : abin P .neq t (.p (.int k a)) (.p (.int k b)) = some (.bool (decide (¬ a = b))) := by simp [abin, ibin]
@[go_sem] theorem abin_lss {a b} : abin P .lss t (.p (.int k a)) (.p (.int k b)) = some (.bool (decide (a < b))) := by simp [abin, ibin]
@[go_sem] theorem abin_leq {a b} : abin P .leq t (.p (.int k a)) (.p (.int k b)) = some (.bool (decide (a ≤ b))) := by simp [abin, ibin]
@[go_sem] theorem abin_gtr {a b} : abin P .gtr t (.p (.int k a)) (.p (.int k b)) = some (.bool (decide (b < a))) := by simp [abin, ibin]
@[go_sem] theorem abin_geq {a b} : abin P .geq t (.p (.int k a)) (.p (.int k b)) = some (.bool (decide (b ≤ a))) := by simp [abin, ibin]
@[go_sem] theorem abin_shl {a b k'} (h : 0 ≤ b) : abin P .shl t (.p (.int k a)) (.p (.int k' b)) = some (.int k (k.wrap (a * 2 ^ (min b.toNat k.bits)))) := by simp [abin, ibin, show ¬ b < 0 by omega]
@[go_sem] theorem abin_shr {a b k'} (h : 0 ≤ b) : abin P .shr t (.p (.int k a)) (.p (.int k' b)) = some (.int k (a.fdiv (2 ^ (min b.toNat k.bits)))) := by simp [abin, ibin, show ¬ b < 0 by omega]
@[go_sem] theorem abin_str {op a b} : abin P op t (.p (.str a)) (.p (.str b)) = sbin op a b := Eq.trans rfl rfl
@[go_sem] theorem sbin_eql {a b} : sbin .eql a b = some (.bool (decide (a = b))) := Eq.trans rfl rfl
@[go_sem] theorem sbin_neq {a b} : sbin .neq a b = some (.bool (decide (¬ a = b))) := by simp [sbin]
@[go_sem] theorem sbin_add {a b} (h : a.length + b.length ≤ 9223372036854775807) : sbin .add a b = some (.str (a ++ b)) := by simp [sbin, h]
def bbin (op : BinOp) (u : Option TypeDesc) (a b : Bool) : Option PV := match op, u with
  | .eql, some .bool => some (.bool (a == b))
  | .neq, some .bool => some (.bool (!(a == b)))
  | _, _ => none
end vals
attribute [irreducible] pst mst hst bst
end Go.AM
namespace Go.AM
open Go.RowKit
section vals
variable {P : Program} {H : List Obj} {k : IntKind} {t u : TypeId}
@[go_sem] theorem abin_bool {op a b} : abin P op t (.p (.bool a)) (.p (.bool b)) = bbin op (P.underlying t) a b := Eq.trans rfl rfl
@[go_sem] theorem bbin_neq {a b} : bbin .neq (some .bool) a b = some (.bool (!(a == b))) := Eq.trans rfl rfl
def gbin (g : Bool) (op : BinOp) (r : Option Bool) : Option PV := if g then none else match op with
 | .eql => r.map .bool
 | .neq => r.map fun r => .bool (!r)
 | _ => none
@[go_sem] theorem abin_agg {op a b} : abin P op t (.p (.agg a)) (.p (.agg b)) = gbin (P.eqGuardType P.depth t) op (aeqT P 9 t (.agg a) (.agg b)) := Eq.trans rfl rfl
@[go_sem] theorem gbin_eql {b} : gbin false .eql (some b) = some (.bool b) := Eq.trans rfl rfl
@[go_sem] theorem gbin_neq {b} : gbin false .neq (some b) = some (.bool (!b)) := Eq.trans rfl rfl
def aeqD (P : Program) (d : Nat) (t : TypeId) (D : Option TypeDesc) (x y : PV) : Option Bool := match D, x, y with
  | some .bool, .bool a, .bool b => some (a == b)
  | some (.int _), .int k a, .int k' b => if k = k' then some (decide (a = b)) else none
  | some .string, .str a, .str b => some (decide (a = b))
  | some (.struct fs), .agg a, .agg b => if P.stoodInHeld t then none else aeqF (aeqT P d) P fs.toList a b
  | some (.array n e), .agg a, .agg b => match tsz P e with | some m => aeqA (aeqT P d e) P e m n 0 a b | none => none
  | _, _, _ => none
@[go_sem] theorem aeqT_succ {d x y} : aeqT P (d + 1) t x y = aeqD P d t (P.underlying t) x y := Eq.trans rfl rfl
@[go_sem] theorem aeqD_bool {d a b} : aeqD P d t (some .bool) (.bool a) (.bool b) = some (a == b) := Eq.trans rfl rfl
@[go_sem] theorem aeqD_int {d k0 a b} : aeqD P d t (some (.int k0)) (.int k a) (.int k b) = some (decide (a = b)) := by simp [aeqD]
theorem aeqD_struct {d fs a b} (h : P.stoodInHeld t = false) : aeqD P d t (some (.struct fs)) (.agg a) (.agg b) = aeqF (aeqT P d) P fs.toList a b := by simp [aeqD, h]
def oand (x y : Option Bool) : Option Bool := x.bind fun p => y.map fun q => p && q
@[go_sem] theorem oand_some {p q} : oand (some p) (some q) = some (p && q) := Eq.trans rfl rfl
def eqP (f : PV → PV → Option Bool) (x y : Option PV) : Option Bool := x.bind fun x => y.bind fun y => f x y
@[go_sem] theorem eqP_some {f x y} : eqP f (some x) (some y) = f x y := Eq.trans rfl rfl
@[go_sem] theorem aeqF_nil {f a b} : aeqF f P [] a b = some true := Eq.trans rfl rfl
@[go_sem] theorem aeqF_cons {f fi r a b} : aeqF f P (fi :: r) a b = if fi.name = "_" then aeqF f P r a b else oand (eqP (f fi.type) (apart P fi.type a fi.offset) (apart P fi.type b fi.offset)) (aeqF f P r a b) := by
 simp only [aeqF]
 split
 ·rfl
 ·cases apart P fi.type a fi.offset <;> cases apart P fi.type b fi.offset <;> simp [eqP, oand]
  rename_i x y
  cases f fi.type x y <;> cases aeqF f P r a b <;> rfl
def aprt (g : Option Bool) (s : Option Nat) (cs : List PV) (off : Nat) : Option PV := match g, s with
 | some true, some n => if off + n ≤ cs.length then some (.agg ((cs.drop off).take n)) else none
 | some false, _ => cs[off]?
 | _, _ => none
@[go_sem] theorem apart_eq {cs off} : apart P t cs off = aprt (tagg P t) (tsz P t) cs off := Eq.trans rfl rfl
@[go_sem] theorem aprt_one {s cs off} : aprt (some false) s cs off = cs[off]? := Eq.trans rfl rfl
def aloadB (g : Option Bool) (s : Option Nat) (H : List Obj) (x : V) : Option V := match g, s with
 | some true, some n => (acells H x n).map mkA
 | some false, _ => match acells H x 1 with
  | some (c :: _) => some c
  | _ => none
 | _, _ => none
def hdO (x : Option (List V)) : Option V := match x with | some (c :: _) => some c | _ => none
@[go_sem] theorem hdO_some {c l} : hdO (some (c :: l)) = some c := Eq.trans rfl rfl
@[go_sem] theorem aload_eq {x} : aload P H t x = aloadB (tagg P t) (tsz P t) H x := Eq.trans rfl rfl
@[go_sem] theorem aloadB_one {s x} : aloadB (some false) s H x = hdO (acells H x 1) := by simp only [aloadB, hdO]
@[go_sem] theorem aloadB_agg {n x} : aloadB (some true) (some n) H x = (acells H x n).map mkA := Eq.trans rfl rfl
@[go_sem] theorem acells_lp {x j n} : acells H (.lp x j) n = if j + n ≤ x.cells.length then some (((x.cells.drop j).take n).map .p) else none := Eq.trans rfl rfl
def pcells (ob : Obj) (off n : Nat) : Option (List V) := match ob with | .cells cs => if off + n ≤ cs.length then some ((cs.drop off).take n) else none | _ => none
@[go_sem] theorem acells_ptr {o off n} : acells H (.ptr o off) n = pcells (oat H o) off n := Eq.trans rfl rfl
@[go_sem] theorem pcells_cells {cs off n} : pcells (.cells cs) off n = if off + n ≤ cs.length then some ((cs.drop off).take n) else none := Eq.trans rfl rfl
def ecells (ob : Obj) (i j tot n : Nat) : Option (List V) := match ob with
 | .elems _ xs => if xs.length = tot ∧ i < xs.length ∧ j + n ≤ (elt xs i).cells.length then some ((((elt xs i).cells.drop j).take n).map .p) else none
 | _ => none
@[go_sem] theorem acells_ep {o i j tot n} : acells H (.ep o i j tot) n = ecells (oat H o) i j tot n := Eq.trans rfl rfl
@[go_sem] theorem ecells_elems {S xs i j tot n} : ecells (.elems S xs) i j tot n = if xs.length = tot ∧ i < xs.length ∧ j + n ≤ (elt xs i).cells.length then some ((((elt xs i).cells.drop j).take n).map .p) else none := Eq.trans rfl rfl
@[go_sem] theorem cells_agg {cs} : (PV.agg cs).cells = cs := Eq.trans rfl rfl
@[go_sem] theorem cells_int {n} : (PV.int k n).cells = [.int k n] := Eq.trans rfl rfl
@[go_sem] theorem cells_bool {b} : (PV.bool b).cells = [.bool b] := Eq.trans rfl rfl
@[go_sem] theorem cells_str {s} : (PV.str s).cells = [.str s] := Eq.trans rfl rfl
@[go_sem] theorem cells_list {c xs} : (PV.list c xs).cells = [.list c xs] := Eq.trans rfl rfl
@[go_sem] theorem one_int {n} : (PV.int k n).one = true := Eq.trans rfl rfl
@[go_sem] theorem one_bool {b} : (PV.bool b).one = true := Eq.trans rfl rfl
@[go_sem] theorem one_str {s} : (PV.str s).one = true := Eq.trans rfl rfl
@[go_sem] theorem one_list {c xs} : (PV.list c xs).one = true := Eq.trans rfl rfl
@[go_sem] theorem mkA_eq {cs} : mkA cs = match allP cs with | some ps => .p (.agg ps) | none => .agg cs := Eq.trans rfl rfl
@[go_sem] theorem allP_nil : allP [] = some [] := Eq.trans rfl rfl
@[go_sem] theorem allP_cons {x r} : allP (.p x :: r) = (allP r).map (x :: ·) := by simp only [allP]
def afieldB (n : Option Nat) (a : Bool) (x : V) : Option V := match n with | some n => if a then some (amove n x) else none | none => none
@[go_sem] theorem afield_eq {s f x} : afield P H s f x = afieldB (tfld P s f) (alive H x) x := Eq.trans rfl rfl
@[go_sem] theorem afieldB_some {n x} : afieldB (some n) true x = some (amove n x) := Eq.trans rfl rfl
@[go_sem] theorem amove_lp {n x j} : amove n (.lp x j) = .lp x (j + n) := Eq.trans rfl rfl
@[go_sem] theorem amove_ptr {n o off} : amove n (.ptr o off) = .ptr o (off + n) := Eq.trans rfl rfl
@[go_sem] theorem amove_ep {n o i j tot} : amove n (.ep o i j tot) = .ep o i (j + n) tot := Eq.trans rfl rfl
def isCells (ob : Obj) : Bool := match ob with | .cells _ => true | _ => false
@[go_sem] theorem isCells_cells {cs} : isCells (.cells cs) = true := Eq.trans rfl rfl
def isElems (ob : Obj) (tot : Nat) : Bool := match ob with | .elems _ xs => decide (xs.length = tot) | _ => false
@[go_sem] theorem isElems_elems {S xs tot} : isElems (.elems S xs) tot = decide (xs.length = tot) := Eq.trans rfl rfl
@[go_sem] theorem alive_lp {x j} : alive H (.lp x j) = true := Eq.trans rfl rfl
@[go_sem] theorem alive_eptr {o off} : alive H (.ptr o off) = isCells (oat H o) := Eq.trans rfl rfl
@[go_sem] theorem alive_ep {o i j tot} : alive H (.ep o i j tot) = isElems (oat H o) tot := Eq.trans rfl rfl
def aindexB (e : Option (Option Nat × Nat)) (H : List Obj) (x i : V) : Option V := match e, i with
 | some (none, S), .p (.int _ n) => match x with
  | .p (.list _ xs) => if 0 ≤ n ∧ n < xs.length then (if (elt xs n.toNat).cells.length = S then some (.lp (elt xs n.toNat) 0) else none) else none
  | .sl o off len tot => match oat H o with
   | .elems S' xs => if xs.length = tot ∧ S' = S then (if 0 ≤ n ∧ n < len then some (.ep o (off + n.toNat) 0 tot) else none) else none
   | .cells _ => if S = 1 ∧ off = 0 ∧ len = tot ∧ 0 ≤ n ∧ n < len then some (.ptr o n.toNat) else none
   | _ => none
  | _ => none
 | some (some k, S), .p (.int _ n) => if 0 ≤ n ∧ n < k then (if alive H x then some (amove (n.toNat * S) x) else none) else none
 | _, _ => none
@[go_sem] theorem aindex_eq {x i} : aindex P H t x i = aindexB (telt P t) H x i := Eq.trans rfl rfl
theorem aindexB_list {S c xs n} (h0 : 0 ≤ n) (h1 : n < (List.length xs : Int)) : aindexB (some (none, S)) H (.p (.list c xs)) (.p (.int k n)) = if (elt xs n.toNat).cells.length = S then some (.lp (elt xs n.toNat) 0) else none := by
 simp only [aindexB]; rw [if_pos ⟨h0, h1⟩]
def nth {α : Type} [Inhabited α] (l : List α) (i : Nat) : α := l.getD i default
theorem elt_map {α : Type} [Inhabited α] {f : α → PV} {l : List α} {i : Nat} (h : i < l.length) : elt (l.map f) i = f (nth l i) := by
 simp [elt, nth, h]
theorem nth_get {α : Type} [Inhabited α] {l : List α} {i : Nat} (h : i < l.length) : nth l i = l[i] := by simp [nth, h]
@[go_sem] theorem aindexB_map {α : Type} [Inhabited α] {f : α → PV} {l : List α} {S c n} (h0 : 0 ≤ n) (h1 : n < (l.length : Int)) :
  aindexB (some (none, S)) H (.p (.list c (l.map f))) (.p (.int k n)) = if (f (nth l n.toNat)).cells.length = S then some (.lp (f (nth l n.toNat)) 0) else none := by
 rw [aindexB_list h0 (by simpa using h1), elt_map (by omega)]
def sindex (ob : Obj) (S o off len tot : Nat) (n : Int) : Option V := match ob with
 | .elems S' xs => if xs.length = tot ∧ S' = S then (if 0 ≤ n ∧ n < len then some (.ep o (off + n.toNat) 0 tot) else none) else none
 | .cells _ => if S = 1 ∧ off = 0 ∧ len = tot ∧ 0 ≤ n ∧ n < len then some (.ptr o n.toNat) else none
 | _ => none
@[go_sem] theorem aindexB_sl {S o off len tot n} : aindexB (some (none, S)) H (.sl o off len tot) (.p (.int k n)) = sindex (oat H o) S o off len tot n := Eq.trans rfl rfl
@[go_sem] theorem sindex_in {S xs o off} {len tot : Nat} {n : Int} (h0 : 0 ≤ n) (h1 : n < (len : Int)) (ht : xs.length = tot) : sindex (.elems S xs) S o off len tot n = some (.ep o (off + n.toNat) 0 tot) := by
 simp only [sindex]; simp [ht, h0, h1]
@[go_sem] theorem aindexB_arr {n} {m S : Nat} {x} (h0 : 0 ≤ n) (h1 : n < (m : Int)) : aindexB (some (some m, S)) H x (.p (.int k n)) = afieldB (some (n.toNat * S)) (alive H x) x := by
 simp only [aindexB, afieldB]; rw [if_pos ⟨h0, h1⟩]
def alenB (H : List Obj) (D : Option TypeDesc) (x : V) : Option PV := match D, x with
 | some (.slice _), .p (.list _ xs) => some (.int .i64 xs.length)
 | some (.slice _), .sl o _ len tot => match oat H o with
  | .elems _ xs => if xs.length = tot then some (.int .i64 len) else none
  | _ => none
 | some .string, .p (.str s) => some (.int .i64 s.length)
 | some (.array n _), _ => some (.int .i64 n)
 | _, _ => none
@[go_sem] theorem alen_eq {x} : alen P H t x = alenB H (P.underlying t) x := Eq.trans rfl rfl
@[go_sem] theorem alenB_list {e c xs} : alenB H (some (.slice e)) (.p (.list c xs)) = some (.int .i64 (List.length xs)) := Eq.trans rfl rfl
def slen (ob : Obj) (len tot : Nat) : Option PV := match ob with | .elems _ xs => if xs.length = tot then some (.int .i64 len) else none | _ => none
@[go_sem] theorem alenB_sl {e o off len tot} : alenB H (some (.slice e)) (.sl o off len tot) = slen (oat H o) len tot := Eq.trans rfl rfl
@[go_sem] theorem slen_elems {S xs len tot} : slen (.elems S xs) len tot = if xs.length = tot then some (.int .i64 len) else none := Eq.trans rfl rfl
@[go_sem] theorem alenB_str {s} : alenB H (some .string) (.p (.str s)) = some (.int .i64 (List.length s)) := Eq.trans rfl rfl
@[go_sem] theorem aun_not {b} : aun .not (.p (.bool b)) = some (.bool (!b)) := Eq.trans rfl rfl
@[go_sem] theorem aun_neg {n} : aun .neg (.p (.int k n)) = some (.int k (k.wrap (0 - n))) := Eq.trans rfl rfl
def aconvB (D E : Option TypeDesc) (x : V) : Option PV := match D, E, x with
 | some _, some (.int k), .p (.int _ n) => some (.int k (k.wrap n))
 | some (.int _), some .string, .p (.int _ n) => if 0 ≤ n ∧ n < 128 then some (.str [UInt8.ofNat n.toNat]) else none
 | some .string, some .string, .p (.str b) => some (.str b)
 | _, _, _ => none
@[go_sem] theorem aconv_eq {s x} : aconv P s t x = aconvB (P.underlying s) (P.underlying t) x := Eq.trans rfl rfl
@[go_sem] theorem aconvB_int {D k' n} : aconvB (some D) (some (.int k)) (.p (.int k' n)) = some (.int k (k.wrap n)) := by cases D <;> rfl
def abytesC (E : Option TypeDesc) (H : List Obj) (x : V) : Option PV := match E, x with
  | some (.int .u8), .p (.list _ xs) => (bytesOf xs).map .str
  | some (.int .u8), .sl o off len tot => match oat H o with
   | .elems _ xs => if xs.length = tot ∧ off + len ≤ tot then (bytesOf ((xs.take (off + len)).drop off)).map .str else none
   | _ => none
  | _, _ => none
def abytesB (P : Program) (H : List Obj) (D E : Option TypeDesc) (x : V) : Option PV := match D, E with
 | some (.slice e), some .string => abytesC (P.underlying e) H x
 | _, _ => none
@[go_sem] theorem abytes_eq {s x} : abytes P H s t x = abytesB P H (P.underlying s) (P.underlying t) x := Eq.trans rfl rfl
@[go_sem] theorem abytesB_int {E x} : abytesB P H (some (.int k)) E x = none := Eq.trans rfl rfl
@[go_sem] theorem abytesB_slice {e x} : abytesB P H (some (.slice e)) (some .string) x = abytesC (P.underlying e) H x := Eq.trans rfl rfl
def sbytes (ob : Obj) (off len tot : Nat) : Option PV := match ob with | .elems _ xs => if xs.length = tot ∧ off + len ≤ tot then (bytesOf ((xs.take (off + len)).drop off)).map .str else none | _ => none
@[go_sem] theorem abytesC_sl {o off len tot} : abytesC (some (.int .u8)) H (.sl o off len tot) = sbytes (oat H o) off len tot := Eq.trans rfl rfl
@[go_sem] theorem sbytes_elems {S xs off len tot} : sbytes (.elems S xs) off len tot = if xs.length = tot ∧ off + len ≤ tot then (bytesOf ((xs.take (off + len)).drop off)).map .str else none := Eq.trans rfl rfl
@[go_sem] theorem bytesOf_nil : bytesOf [] = some [] := Eq.trans rfl rfl
@[go_sem] theorem bytesOf_cons {n r} : bytesOf (.int .u8 n :: r) = (bytesOf r).map (UInt8.ofNat n.toNat :: ·) := by simp [bytesOf]
@[go_sem] theorem tdiv_in {a b : Int} (h : 0 ≤ a) : a.tdiv b = a / b := Int.tdiv_eq_ediv_of_nonneg h
@[go_sem] theorem tmod_in {a b : Int} (h : 0 ≤ a) : a.tmod b = a % b := Int.tmod_eq_emod_of_nonneg h
@[go_sem] theorem vc_agg {cs} : vc H (.p (.agg cs)) = if cs.all (·.one) = true then some (cs.map .p) else none := by simp only [vc]
@[go_sem] theorem vc_aggV {cs} : vc H (.agg cs) = if cs.all (V.one H) = true then some cs else none := by simp only [vc]
@[go_sem] theorem vc_int {n} : vc H (.p (.int k n)) = some [.p (.int k n)] := Eq.trans rfl rfl
@[go_sem] theorem vc_bool {n} : vc H (.p (.bool n)) = some [.p (.bool n)] := Eq.trans rfl rfl
@[go_sem] theorem vc_str {n} : vc H (.p (.str n)) = some [.p (.str n)] := Eq.trans rfl rfl
@[go_sem] theorem vc_list {c xs} : vc H (.p (.list c xs)) = some [.p (.list c xs)] := Eq.trans rfl rfl
@[go_sem] theorem vc_sl {o off len tot} : vc H (.sl o off len tot) = if isElems (oat H o) tot = true then some [.sl o off len tot] else none := Eq.trans rfl rfl
@[go_sem] theorem vone_p {x} : V.one H (.p x) = x.one := Eq.trans rfl rfl
@[go_sem] theorem vone_sl {o off len tot} : V.one H (.sl o off len tot) = isElems (oat H o) tot := Eq.trans rfl rfl
@[go_sem] theorem vc_mp {o} : vc H (.mp o) = if isMap (oat H o) = true then some [.mp o] else none := Eq.trans rfl rfl
@[go_sem] theorem isMap_map {es} : isMap (.map es) = true := Eq.trans rfl rfl
@[go_sem] theorem spl_nil {α : Type} {n} {cs : List α} : spl ([] : List α) n cs = [] := by cases cs <;> cases n <;> simp [spl]
@[go_sem] theorem spl_zero {α : Type} {x c : α} {l cs} : spl (x :: l) 0 (c :: cs) = c :: spl l 0 cs := by simp [spl]
@[go_sem] theorem spl_zeron {α : Type} {x : α} {l} : spl (x :: l) 0 [] = x :: l := by simp [spl]
@[go_sem] theorem spl_succ {α : Type} {x : α} {l cs n} : spl (x :: l) (n + 1) cs = x :: spl l n cs := by simp [spl]
def pstore (H : List Obj) (o : Nat) (ob : Obj) (off n : Nat) (cs : List V) : Option (List Obj) := match ob with
 | .cells old => if off + n ≤ old.length then some (ost H o (.cells (spl old off cs))) else none
 | _ => none
@[go_sem] theorem astore_ptr {n o off cs} : astore H n (.ptr o off) cs = if cs.length = n then pstore H o (oat H o) off n cs else none := Eq.trans rfl rfl
@[go_sem] theorem pstore_cells {o old off n cs} : pstore H o (.cells old) off n cs = if off + n ≤ old.length then some (ost H o (.cells (spl old off cs))) else none := Eq.trans rfl rfl
def estore (H : List Obj) (o : Nat) (ob : Obj) (i j tot n : Nat) (ps : Option (List PV)) : Option (List Obj) := match ob, ps with
 | .elems S xs, some ps => if xs.length = tot ∧ i < xs.length ∧ j + n ≤ (elt xs i).cells.length ∧ ps.all (·.one) = true ∧ (elt xs i).cells.all (·.one) = true then
   some (ost H o (.elems S (xs.set i (mkE (elt xs i) (spl (elt xs i).cells j ps))))) else none
 | _, _ => none
@[go_sem] theorem astore_ep {n o i j tot cs} : astore H n (.ep o i j tot) cs = if cs.length = n then estore H o (oat H o) i j tot n (allP cs) else none := Eq.trans rfl rfl
@[go_sem] theorem estore_map {α : Type} [Inhabited α] {f : α → PV} {l : List α} {o S i j tot n ps} (ht : l.length = tot) (hi : i < l.length) : estore H o (.elems S (l.map f)) i j tot n (some ps) =
  if j + n ≤ (f (nth l i)).cells.length ∧ ps.all (·.one) = true ∧ (f (nth l i)).cells.all (·.one) = true then
   some (ost H o (.elems S ((l.map f).set i (mkE (f (nth l i)) (spl (f (nth l i)).cells j ps))))) else none := by
 simp only [estore, elt_map hi]
 have h1 : (l.map f).length = tot := by simpa using ht
 have h2 : i < (l.map f).length := by simpa using hi
 simp only [h1, h2, true_and]
 subst ht
 simp [hi]
@[go_sem] theorem mkE_agg {a cs} : mkE (.agg a) cs = .agg cs := Eq.trans rfl rfl
@[go_sem] theorem mkE_int {n c l} : mkE (.int k n) (c :: l) = c := Eq.trans rfl rfl
@[go_sem] theorem abuild_eq {l} : abuild P H t l = match zcells P t, tpl P t with
 | some zs, some pl => (afill H pl (zs.map .p) l).map mkA
 | _, _ => none := Eq.trans rfl rfl
@[go_sem] theorem afill_nil {pl cs} : afill H pl cs [] = some cs := by simp [afill]
def afill1 (H : List Obj) (pl : Nat → Option (Nat × Nat)) (cs : List V) (r : List (Nat × V)) (q : Option (Nat × Nat)) (vs : Option (List V)) : Option (List V) := match q, vs with
 | some (off, sz), some vs => if vs.length = sz ∧ off + sz ≤ cs.length then afill H pl (spl cs off vs) r else none
 | _, _ => none
@[go_sem] theorem afill_cons {pl cs i v r} : afill H pl cs ((i, v) :: r) = afill1 H pl cs r (pl i) (vc H v) := Eq.trans rfl rfl
@[go_sem] theorem afill1_some {pl cs off sz vs r} : afill1 H pl cs r (some (off, sz)) (some vs) = if vs.length = sz ∧ off + sz ≤ cs.length then afill H pl (spl cs off vs) r else none := Eq.trans rfl rfl
@[go_sem] theorem plL_eq {l i} : plL l i = l[i]? := Eq.trans rfl rfl
@[go_sem] theorem plA_eq {n i} : plA n i = some (i * n, n) := Eq.trans rfl rfl
end vals
end Go.AM
namespace Go.AM
open Go.RowKit
section
variable {P : Program} {H : List Obj} {k : IntKind} {t u : TypeId} {fr : List V}
def alitB (S : Option Nat) (H : List Obj) (n : Nat) (l : List (Nat × V)) : Option (V × List Obj) := match S with
 | some S => if n = l.length ∧ n * S ≤ 16777216 ∧ 0 < S then (litE H S 0 l).map fun xs => (.sl H.length 0 n n, H ++ [.elems S xs]) else none
 | none => none
@[go_sem] theorem amem_lit {n l} : amem P (.buildSlice t n (List.toArray l)) fr H = alitB (litF P t) H n (l.map fun x => (x.1, ev fr x.2)) := by
 simp only [amem, litF, alitB]
 cases P.underlying t with
 | none => rfl
 | some D =>
  cases D <;> try rfl
  rename_i e
  simp only []
  cases (P.info? e).bind (·.zero) with
  | none => rfl
  | some z =>
   simp only [alit]
   cases telt P t with
   | none => rfl
   | some q => obtain ⟨a, b⟩ := q; cases a <;> rfl
@[go_sem] theorem alitB_some {S n l} : alitB (some S) H n l = if n = l.length ∧ n * S ≤ 16777216 ∧ 0 < S then (litE H S 0 l).map fun xs => (.sl H.length 0 n n, H ++ [.elems S xs]) else none := Eq.trans rfl rfl
@[go_sem] theorem litE_nil {S n} : litE H S n [] = some [] := by simp [litE]
@[go_sem] theorem litE_cons {S n i x r} : litE H S n ((i, .p x) :: r) = if i = n then if x.cells.length = S ∧ x.cells.all (·.one) = true then (litE H S (n + 1) r).map (x :: ·) else none else none := by simp only [litE, pvo]
@[go_sem] theorem litE_fn {S n i f r} : litE H S n ((i, .fn (.func f) [] []) :: r) = if i = n then if 1 = S then (litE H S (n + 1) r).map (.fn f :: ·) else none else none := by simp [litE, pvo, PV.cells, PV.one]
def appF (P : Program) (t : TypeId) : Option (Nat × Nat) := match P.underlying t with
 | some (.slice e) => match tsz P e, zval P e, (P.info? e).map (·.bytes) with
  | some S, some z, some by' => if 0 < S ∧ z.cells.length = S ∧ z.cells.all (·.one) = true ∧ by' ≠ 0 then some (S, by') else none
  | _, _, _ => none
 | _ => none
theorem appF_inv {S by'} (h : appF P t = some (S, by')) : ∃ e z, P.underlying t = some (.slice e) ∧ tsz P e = some S ∧ zval P e = some z ∧ (P.info? e).map (·.bytes) = some by' ∧ 0 < S ∧ z.cells.length = S ∧ z.cells.all (·.one) = true ∧ by' ≠ 0 := by
 unfold appF at h
 split at h
 ·rename_i e hu
  split at h
  ·rename_i S' z b h1 h2 h3
   split at h
   ·rename_i hc
    simp at h; obtain ⟨rfl, rfl⟩ := h
    exact ⟨e, z, hu, h1, h2, h3, hc⟩
   ·cases h
  ·cases h
 ·cases h
def asrcB (D : Option TypeDesc) (H : List Obj) (y : V) : Option (List PV) := match D, y with
 | some (.slice _), .p (.list _ ys) => some ys
 | some (.slice _), .sl o off len tot => match oat H o with
  | .elems _ xs => if xs.length = tot ∧ off + len ≤ tot then some ((xs.take (off + len)).drop off) else none
  | _ => none
 | some .string, .p (.str s) => some (s.map fun b => .int .u8 b.toNat)
 | _, _ => none
def ssrc (ob : Obj) (off len tot : Nat) : Option (List PV) := match ob with | .elems _ xs => if xs.length = tot ∧ off + len ≤ tot then some ((xs.take (off + len)).drop off) else none | _ => none
@[go_sem] theorem asrcB_list {e c ys} : asrcB (some (.slice e)) H (.p (.list c ys)) = some ys := Eq.trans rfl rfl
@[go_sem] theorem asrcB_sl {e o off len tot} : asrcB (some (.slice e)) H (.sl o off len tot) = ssrc (oat H o) off len tot := Eq.trans rfl rfl
theorem ssrc_all {S xs n} (h : List.length xs = n) : ssrc (.elems S xs) 0 n n = some xs := by subst h; simp [ssrc]
def app0 (H : List Obj) (F : Option (Nat × Nat)) (ys : Option (List PV)) : Option (V × List Obj) := match F, ys with
 | some (S, by'), some ys => if okE S ys = true ∧ ys.length * by' ≤ 140737488355328 ∧ ys.length ≤ 140737488355328 then some (.sl H.length 0 ys.length ys.length, H ++ [.elems S ys]) else none
 | _, _ => none
def app1 (H : List Obj) (F : Option (Nat × Nat)) (ob : Obj) (o n : Nat) (ys : Option (List PV)) : Option (V × List Obj) := match F, ob, ys with
 | some (S, by'), .elems S' xs, some ys => if S' = S ∧ xs.length = n ∧ okE S ys = true ∧ (n + ys.length) * by' ≤ 140737488355328 ∧ n + ys.length ≤ 140737488355328 then
   some (.sl o 0 (n + ys.length) (n + ys.length), ost H o (.elems S (xs ++ ys))) else none
 | _, _, _ => none
theorem aapp_of {z x y ys e S by'} (h1 : P.underlying t = some (.slice e)) (h2 : tsz P e = some S) (h3 : zval P e = some z) (h4 : (P.info? e).map (·.bytes) = some by') (h5 : asrc P H u y = some ys) (h6 : 0 < S ∧ z.cells.length = S ∧ z.cells.all (·.one) = true ∧ by' ≠ 0) :
  aapp P H t u x y = if okE S ys = true then (match x with
    | .p (.list cl xs) => if cl = true ∧ okE S xs = true ∧ (xs = [] ∨ 0 < ys.length) ∧ (xs.length + ys.length) * by' ≤ 140737488355328 ∧ xs.length + ys.length ≤ 140737488355328 then
      some (.sl H.length 0 (xs.length + ys.length) (xs.length + ys.length), H ++ [.elems S (xs ++ ys)]) else none
    | .sl o off len tot => match oat H o with
     | .elems S' xs => if S' = S ∧ off = 0 ∧ len = tot ∧ xs.length = tot ∧ (tot + ys.length) * by' ≤ 140737488355328 ∧ tot + ys.length ≤ 140737488355328 then
       some (.sl o 0 (tot + ys.length) (tot + ys.length), ost H o (.elems S (xs ++ ys))) else none
     | _ => none
    | _ => none) else none := by
 simp only [aapp, h1, h2, h3, h4, h5]
 by_cases hc : okE S ys = true
 ·rw [if_pos hc, if_pos ⟨h6.1, h6.2.1, h6.2.2.1, h6.2.2.2, hc⟩]
  cases x with
  | p x => cases x <;> rfl
  | _ => rfl
 ·rw [if_neg hc, if_neg (fun h => hc h.2.2.2.2)]
theorem aapp_nil {y F} (hF : appF P t = some F) : aapp P H t u (.p (.list true [])) y = app0 H (some F) (asrcB (P.underlying u) H y) := by
 obtain ⟨S, by'⟩ := F
 obtain ⟨e, z, h1, h2, h3, h4, h6⟩ := appF_inv hF
 have e1 : asrcB (P.underlying u) H y = asrc P H u y := Eq.trans rfl rfl
 rw [e1]
 cases h5 : asrc P H u y with
 | none => simp [aapp, h1, h2, h3, h4, h5, app0]
 | some ys =>
  rw [aapp_of h1 h2 h3 h4 h5 h6]
  simp only [app0, okE]
  by_cases hc : ys.all (okE1 S) = true
  ·simp [hc]
  ·simp [hc]
theorem aapp_own {y F o n} (hF : appF P t = some F) : aapp P H t u (.sl o 0 n n) y = app1 H (some F) (oat H o) o n (asrcB (P.underlying u) H y) := by
 obtain ⟨S, by'⟩ := F
 obtain ⟨e, z, h1, h2, h3, h4, h6⟩ := appF_inv hF
 have e1 : asrcB (P.underlying u) H y = asrc P H u y := Eq.trans rfl rfl
 rw [e1]
 cases h5 : asrc P H u y with
 | none =>
  simp only [aapp, h1, h2, h3, h4, h5, app1]
  cases oat H o <;> rfl
 | some ys =>
  rw [aapp_of h1 h2 h3 h4 h5 h6]
  simp only [app1]
  cases oat H o with
  | elems S' xs =>
   by_cases hc : okE S ys = true
   ·simp [hc]
   ·simp [hc]
  | cells cs => simp
  | map es => simp
  | bld T E r bs => simp
  | dead => simp
@[go_sem] theorem app0_some {S b ys} : app0 H (some (S, b)) (some ys) = if okE S ys = true ∧ ys.length * b ≤ 140737488355328 ∧ ys.length ≤ 140737488355328 then some (.sl H.length 0 ys.length ys.length, H ++ [.elems S ys]) else none := Eq.trans rfl rfl
theorem app1_some {S b xs ys o n} (hn : xs.length = n) (hb : (n + ys.length) * b ≤ 140737488355328) (hb2 : n + ys.length ≤ 140737488355328) : app1 H (some (S, b)) (.elems S xs) o n (some ys) = if okE S ys = true then some (.sl o 0 (n + ys.length) (n + ys.length), ost H o (.elems S (xs ++ ys))) else none := by
 simp only [app1]
 by_cases hc : okE S ys = true
 ·rw [if_pos ⟨trivial, hn, hc, hb, hb2⟩, if_pos hc]
 ·rw [if_neg (fun h => hc h.2.2.1), if_neg hc]
@[go_sem] theorem ssrc_map {α : Type} {S} {f : α → PV} {l : List α} : ssrc (.elems S (l.map f)) 0 l.length l.length = some (l.map f) := ssrc_all (by simp)
@[go_sem] theorem ssrc_one {S x} : ssrc (.elems S [x]) 0 1 1 = some [x] := ssrc_all (by simp)
@[go_sem] theorem app1_map1 {α : Type} {S b o x} {f : α → PV} {l : List α} (hb : (l.length + 1) * b ≤ 140737488355328) (hb2 : l.length + 1 ≤ 140737488355328) : app1 H (some (S, b)) (.elems S (l.map f)) o l.length (some [x]) = if okE S [x] = true then some (.sl o 0 (l.length + 1) (l.length + 1), ost H o (.elems S (l.map f ++ [x]))) else none :=
 app1_some (by simp) (by simpa using hb) (by simpa using hb2)
@[go_sem] theorem app1_mapm {α β : Type} {S b o} {f : α → PV} {g : β → PV} {l : List α} {m : List β} (hb : (l.length + m.length) * b ≤ 140737488355328) (hb2 : l.length + m.length ≤ 140737488355328) : app1 H (some (S, b)) (.elems S (l.map f)) o l.length (some (m.map g)) = if okE S (m.map g) = true then some (.sl o 0 (l.length + m.length) (l.length + m.length), ost H o (.elems S (l.map f ++ m.map g))) else none := by
 have := @app1_some H S b (l.map f) (m.map g) o l.length (by simp) (by simpa using hb) (by simpa using hb2)
 simpa using this
@[go_sem] theorem okE_nil {S} : okE S [] = true := Eq.trans rfl rfl
@[go_sem] theorem okE_cons {S x l} : okE S (x :: l) = ((x.cells.length == S) && x.cells.all (·.one) && okE S l) := by simp [okE, okE1]
theorem okE_map {α : Type} {S} {f : α → PV} {l : List α} (h : ∀ x, okE1 S (f x) = true) : okE S (l.map f) = true := by simp [okE]; intro x _; exact h x
def makeF (P : Program) (t : TypeId) : Option (Nat × Nat × PV) := match P.underlying t with
  | some (.slice e) => match tsz P e, zval P e, (P.info? e).map (·.bytes) with
   | some S, some z, some by' => if z.cells.all (·.one) = true ∧ z.cells.length = S ∧ 0 < S then some (S, by', z) else none
   | _, _, _ => none
  | _ => none
end
def keepL : Nat → List Nat → List V → List V
 | _, _, [] => []
 | i, [], _ :: l => .junk :: keepL (i + 1) [] l
 | i, k :: ks, x :: l => if i = k then x :: keepL (i + 1) ks l else .junk :: keepL (i + 1) (k :: ks) l
def setL : List (Nat × V) → List V → List V
 | [], fr => fr
 | (i, v) :: r, fr => setL r (pt fr i v)
@[go_sem] theorem keepL_nil {i ks} : keepL i ks [] = [] := by cases ks <;> simp [keepL]
@[go_sem] theorem keepL_none {i x l} : keepL i [] (x :: l) = .junk :: keepL (i + 1) [] l := by simp [keepL]
@[go_sem] theorem keepL_cons {i k ks x l} : keepL i (k :: ks) (x :: l) = if i = k then x :: keepL (i + 1) ks l else .junk :: keepL (i + 1) (k :: ks) l := by simp [keepL]
@[go_sem] theorem cast0 : ((0 : Nat) : Int) = 0 := Eq.trans rfl rfl
@[go_sem] theorem castS {n : Nat} : ((n + 1 : Nat) : Int) = (n : Int) + 1 := Eq.trans rfl rfl
@[go_sem] theorem toNatC {n : Nat} : ((n : Int)).toNat = n := Eq.trans rfl rfl
@[go_sem] theorem setL_nil {fr} : setL [] fr = fr := by simp [setL]
@[go_sem] theorem setL_cons {i v r fr} : setL ((i, v) :: r) fr = setL r (pt fr i v) := by simp [setL]
@[go_sem] theorem and_dec {p q : Prop} [Decidable p] [Decidable q] : (decide p && decide q) = decide (p ∧ q) := by simp
@[go_sem] theorem or_dec {p q : Prop} [Decidable p] [Decidable q] : (decide p || decide q) = decide (p ∨ q) := by simp
theorem awp_for {P c fr H Q} {I : Type} (ks : List Nat) (sets : I → List (Nat × V)) (hs : I → List Obj) (R : I → Prop) (μ : I → Nat) (i0 : I) (hR : R i0) (h0 : Weak H.length fr H (setL (sets i0) (keepL 0 ks fr)) (hs i0))
  (round : ∀ i, R i → awp [] P c (setL (sets i) (keepL 0 ks fr)) (hs i) (thenA (fun fr' H' => ∃ i', R i' ∧ μ i' < μ i ∧ Weak H.length fr' H' (setL (sets i') (keepL 0 ks fr)) (hs i')) Q)) : AWP P (.loop c) fr H Q :=
 awp_loop R (fun i => setL (sets i) (keepL 0 ks fr)) hs μ i0 hR h0 fun i hi => awp_sound [] _ _ _ _ (round i hi)
theorem awp_forC {P c fr H Q} (cuts : List Nat) {I : Type} (ks : List Nat) (sets : I → List (Nat × V)) (hs : I → List Obj) (R : I → Prop) (μ : I → Nat) (i0 : I) (hR : R i0) (h0 : Weak H.length fr H (setL (sets i0) (keepL 0 ks fr)) (hs i0))
  (round : ∀ i, R i → awp cuts P c (setL (sets i) (keepL 0 ks fr)) (hs i) (thenA (fun fr' H' => ∃ i', R i' ∧ μ i' < μ i ∧ Weak H.length fr' H' (setL (sets i') (keepL 0 ks fr)) (hs i')) Q)) : AWP P (.loop c) fr H Q :=
 awp_loop R (fun i => setL (sets i) (keepL 0 ks fr)) hs μ i0 hR h0 fun i hi => awp_sound cuts _ _ _ _ (round i hi)
theorem awp_join {P x y fr H Q} {I : Type} (ks : List Nat) (sets : I → List (Nat × V)) (hs : I → List Obj) (R : I → Prop)
  (h : awp [] P x fr H (thenA (fun fr' H' => ∃ i, R i ∧ Weak H.length fr' H' (setL (sets i) (keepL 0 ks fr)) (hs i)) Q)) (k : ∀ i, R i → AWP P y (setL (sets i) (keepL 0 ks fr)) (hs i) Q) : AWP P (.seq x y) fr H Q :=
 fun F ι a w hr hf => by
 refine wp_seq (wp_mono (awp_sound [] _ _ _ _ h F ι a w hr hf) ?_)
 rintro e a' w' ⟨fr', H', ι', q, g, f⟩
 cases e with
 | normal =>
  obtain ⟨i, hi, hw⟩ := q
  obtain ⟨ι2, r2, f2, g2⟩ := hw F ι' a' w' g.rel f
  refine wp_mono (k i hi F ι2 a' w' r2 f2) ?_
  rintro e2 a2 w2 ⟨fr2, H2, ι3, q2, g3, f3⟩
  exact ⟨fr2, H2, ι3, q2, (g2 H ι w (Nat.le_refl _) g).trans g3, f3⟩
 | exit id => exact ⟨fr', H', ι', q, g, f⟩
 | goto l => exact ⟨fr', H', ι', q, g, f⟩
 | ret => exact ⟨fr', H', ι', q, g, f⟩
 | panic ch => exact ⟨fr', H', ι', q, g, f⟩
 | outgrown => exact ⟨fr', H', ι', q, g, f⟩
@[go_sem] theorem wkV_junk {H n x} : wkV H n x .junk = True := by simp [wkV]
@[go_sem] theorem wkV_pe {H n} {x y : PV} : wkV H n (.p x) (.p y) = (y = x) := by simp [wkV, refB, frz]
@[go_sem] theorem wkV_sle {H n o off len tot o' off' len' tot'} : wkV H n (.sl o off len tot) (.sl o' off' len' tot') = ((o' = o ∧ off' = off ∧ len' = len ∧ tot' = tot) ∧ o < n) := by simp [wkV, refB]
@[go_sem] theorem wkV_ptre {H n o off o' off'} : wkV H n (.ptr o off) (.ptr o' off') = ((o' = o ∧ off' = off) ∧ o < n) := by simp [wkV, refB]
@[go_sem] theorem wkF_nil {H n} : wkF H n [] [] = True := by simp [wkF]
@[go_sem] theorem wkF_cons {H n x l x' l'} : wkF H n (x :: l) (x' :: l') = (wkV H n x x' ∧ wkF H n l l') := by simp [wkF]
@[go_sem] theorem wkH_nil {H n l} : wkH H n l [] = True := by simp [wkH]
@[go_sem] theorem wkH_cons {H n x l x' l'} : wkH H n (x :: l) (x' :: l') = (wkO H n x x' ∧ wkH H n l l') := by simp [wkH]
@[go_sem] theorem wkO_cells {H n cs cs'} : wkO H n (.cells cs) (.cells cs') = wkF H n cs cs' := by simp [wkO]
@[go_sem] theorem wkO_elems {H n S S' xs xs'} : wkO H n (.elems S xs) (.elems S' xs') = (S = S' ∧ xs = xs') := by simp [wkO]
@[go_sem] theorem wkO_map {H n es es2} : wkO H n (.map es) (.map es2) = (es = es2) := by simp [wkO]
@[go_sem] theorem wkV_mp {H n o o2} : wkV H n (.mp o) (.mp o2) = (o2 = o ∧ o < n) := by simp [wkV, refB, frz]
@[go_sem] theorem wkO_dead {H n} : wkO H n .dead .dead = True := by simp [wkO]
theorem Weak.mk {n0 fr H fr' H'} (h : n0 ≤ H'.length ∧ H'.length ≤ H.length ∧ wkF H H'.length fr fr' ∧ wkH H H'.length H H') : Weak n0 fr H fr' H' := Weak.of h.1 h.2.2.1 h.2.2.2 h.2.1
attribute [go_sem] List.length_cons List.length_nil List.cons_append List.nil_append List.append_nil List.map_cons List.map_nil List.drop_zero List.drop_succ_cons List.drop_nil List.take_succ_cons List.take_zero List.take_nil List.all_cons List.all_nil
 Nat.zero_add Nat.add_zero and_self true_and and_true Option.map_some Option.bind_some List.getElem?_cons_zero List.getElem?_cons_succ Bool.and_true Bool.true_and Bool.and_self List.length_map if_true if_false decide_true decide_false IntWalk.i64_in IntWalk.i32_in IntWalk.u8_in IntWalk.u64_in IntWalk.u32_in
 beq_self_eq_true List.replicate_succ List.replicate_zero Bool.or_true Bool.true_or Bool.or_false Bool.false_or Bool.not_true Bool.not_false
end Go.AM
namespace Go.AM
open Go.RowKit
theorem RP.weaker {X X' : Nat → Prop} {w x v} (h : RP X w x v) (hx : ∀ b, X' b → X b) : RP X' w x v := h.ext (w' := w) fun _ hb hs => ⟨fun h => hb (hx _ h), hs, rfl⟩
theorem Good.forget {F w H' ι' w'} (he : Env F [] w) (hf : ∀ b, F b → b < w.heap.size) (g : Good F [] [] w H' ι' w') : Good F [] [] w [] [] w' :=
 .up he ⟨⟨rfl, fun b hb => by have := hf b hb; have := g.size; omega, fun i j b hi => by simp at hi, fun i b hi => by simp at hi, fun o cs ho => by simp at ho, fun o S xs ho => by simp at ho, fun o es ho => by simp at ho, fun o T E r bs ho => by simp at ho⟩,
  g.os, g.tape, g.output, fun b c t h => (g.shape b c t h).imp (fun h => absurd h.1 (by simp)) id, g.size, g.keep, fun _ _ h => h, fun o ob ho => by simp at ho⟩
theorem ACalls.pure {P g args} {y : PV} (h : ACalls P g args [] fun x _ => x = .p y) : ACalls P g args [] fun x H' => x = .p y ∧ H' = [] := by
 refine ⟨h.1, fun F ι w vs hr hv => ?_⟩
 have hι : ι = [] := List.eq_nil_of_length_eq_zero hr.len
 subst hι
 refine (h.2 F [] w vs hr hv).mono ?_
 rintro e w' ⟨x, H', ι', v, rfl, rfl, gd, rv⟩
 cases rv with | p _ _ rp =>
 exact ⟨_, [], [], v, rfl, ⟨rfl, rfl⟩, gd.forget hr.env hr.fin, .p _ _ (rp.weaker fun b hb => .inl (by rcases hb with hb | hb; exact hb; simp at hb))⟩
theorem fresh_core {F : Nat → Prop} {w w' : World} {H' : List Obj} {ι' : List (Option Nat)} {v : Value} {o S n : Nat} {xs : List PV} (hF : ∀ b, F b → b < w.heap.size) (hn : xs.length = n) (ho : oat H' o = .elems S xs)
  (gd : Good F [] [] w H' ι' w') (rv : RV F H' ι' w' (.sl o 0 n n) v) : ∃ ι2, Good F [] [] w [.elems S xs] ι2 w' ∧ RV F [.elems S xs] ι2 w' (.sl 0 0 n n) v := by
 have hH := oat_some ho (by simp)
 have hlt := (List.getElem?_eq_some_iff.1 hH).1
 have hlt' : o < ι'.length := by rw [gd.rel.len]; exact hlt
 have hι' : ι'[o]? = some (ι'[o]) := by simp [hlt']
 have hget : ∀ {i : Nat} {q : Option Nat}, [ι'[o]][i]? = some q → i = 0 ∧ ι'[o]? = some q := fun {i q} h => by
  cases i with
  | zero => simp at h; subst h; exact ⟨rfl, hι'⟩
  | succ i => simp at h
 have hown : ∀ b, Own F [ι'[o]] b → Own F ι' b := fun b hb => by
  rcases hb with hb | hb
  ·exact .inl hb
  ·simp at hb; right; rw [hb]; simp
 refine ⟨[ι'[o]], ⟨⟨⟨rfl, fun b hb => ?_, fun i j b hi hj => ?_, fun i b hi => ?_, fun o' cs ho' => ?_, fun o' S' xs' ho' => ?_, fun o' es ho' => by cases o' <;> simp at ho', fun o' T E r bs ho' => by cases o' <;> simp at ho'⟩, gd.rel.env.le hown⟩, gd.os, gd.tape, gd.output, fun b c t h => (gd.shape b c t h).imp (fun h => absurd h.1 (by simp)) id, gd.size, gd.keep, fun b hb _ h => ?_, fun o ob ho => by simp at ho⟩, ?_⟩
 ·have := hF b hb; have := gd.size; omega
 ·rw [(hget hi).1, (hget hj).1]
 ·exact gd.rel.avo o b (hget hi).2
 ·cases o' with
  | zero => simp at ho'
  | succ i => simp at ho'
 ·cases o' with
  | zero =>
   simp at ho'; obtain ⟨rfl, rfl⟩ := ho'
   rcases gd.rel.elm o _ _ hH with ⟨e1, e2⟩ | ⟨b, c, t, cap, e1, e2, e3, e4, e5, e6, e7⟩
   ·exact .inl ⟨by rw [hι'] at e1; simpa using e1, e2⟩
   ·exact .inr ⟨b, c, t, cap, by rw [hι'] at e1; simpa using e1, e2, e3, e4, e5, e6, fun i x j y hi hj => (e7 i x j y hi hj).weaker hown⟩
  | succ i => simp at ho'
 ·simp at h
  exact gd.own b hb (by simp) (by rw [h]; simp)
 ·cases rv with
  | slNil _ S2 a h1 h2 =>
   rw [hH] at h2; simp at h2; obtain ⟨rfl, rfl⟩ := h2
   exact .slNil 0 S a (by rw [hι'] at h1; simpa using h1) rfl
  | sl _ _ _ _ b S2 cap t xs2 c h1 h2 ht hw hcap hl hlen hm =>
   rw [hH] at h2; simp at h2; obtain ⟨rfl, rfl⟩ := h2
   exact .sl 0 0 n n b S cap t xs c (by rw [hι'] at h1; simpa using h1) rfl hn hw hcap hl hlen hm
  | slD _ _ _ _ _ h1 => rw [hH] at h1; cases h1
  | slS _ _ _ _ _ S2 xs2 h1 hne => rw [hH] at h1; simp at h1; obtain ⟨_, rfl⟩ := h1; omega
  | slC _ _ _ _ _ _ hd => rw [hH] at hd; cases hd
theorem ACalls.fresh {P g args} {S n : Nat} {xs : List PV} (hn : xs.length = n) (h : ACalls P g args [] fun x H' => ∃ o, x = .sl o 0 n n ∧ oat H' o = .elems S xs) : ACalls P g args [] fun x H' => x = .sl 0 0 n n ∧ H' = [.elems S xs] := by
 refine ⟨h.1, fun F ι w vs hr hv => ?_⟩
 have hι : ι = [] := List.eq_nil_of_length_eq_zero hr.len
 subst hι
 refine (h.2 F [] w vs hr hv).mono ?_
 rintro e w' ⟨x, H', ι', v, rfl, ⟨o, rfl, ho⟩, gd, rv⟩
 obtain ⟨ι2, g2, r2⟩ := fresh_core hr.fin hn ho gd rv
 exact ⟨_, _, ι2, v, rfl, ⟨rfl, rfl⟩, g2, r2⟩
theorem ACalls.freshE {P g args} {α : Type} {S : Nat} {f : α → PV} {R : List α → Prop} (h : ACalls P g args [] fun x H' => ∃ l : List α, R l ∧ ∃ o, x = .sl o 0 l.length l.length ∧ oat H' o = .elems S (l.map f)) :
  ACalls P g args [] fun x H' => ∃ l : List α, R l ∧ x = .sl 0 0 l.length l.length ∧ H' = [.elems S (l.map f)] := by
 refine ⟨h.1, fun F ι w vs hr hv => ?_⟩
 have hι : ι = [] := List.eq_nil_of_length_eq_zero hr.len
 subst hι
 refine (h.2 F [] w vs hr hv).mono ?_
 rintro e w' ⟨x, H', ι', v, rfl, ⟨l, hl, o, rfl, ho⟩, gd, rv⟩
 obtain ⟨ι2, g2, r2⟩ := fresh_core hr.fin (by simp) ho gd rv
 exact ⟨_, _, ι2, v, rfl, ⟨l, hl, rfl, rfl⟩, g2, r2⟩
theorem ACalls.frozen {P g args} {S n : Nat} {xs : List PV} (hn : xs.length = n) (h : ACalls P g args [] fun x H' => x = .sl 0 0 n n ∧ H' = [.elems S xs]) : ACalls P g args [] fun x H' => x = .p (.list false xs) ∧ H' = [] := by
 refine ⟨h.1, fun F ι w vs hr hv => ?_⟩
 have hι : ι = [] := List.eq_nil_of_length_eq_zero hr.len
 subst hι
 refine (h.2 F [] w vs hr hv).mono ?_
 rintro e w' ⟨x, H', ι', v, rfl, ⟨rfl, rfl⟩, gd, rv⟩
 have hk : Keeps (Own F ι') w' (Own F []) w' := fun b hb hs => ⟨fun h => hb (.inl (by rcases h with h | h; exact h; simp at h)), hs, rfl⟩
 have := rp_own (S := S) (xs := xs) (off := 0) (len := n) (tot := n) (Own F []) (fun b hb h => by
  rcases h with h | h
  ·exact (gd.rel.avo 0 b hb).1 h
  ·simp at h) hk gd.rel rfl hn (by omega) rv
 rw [Nat.zero_add, List.drop_zero, List.take_of_length_le (by omega)] at this
 exact ⟨_, [], [], v, rfl, ⟨rfl, rfl⟩, gd.forget hr.env hr.fin, .p _ _ this⟩
theorem ACalls.frozenE {P g args} {α : Type} {S : Nat} {f : α → PV} {R : List α → Prop} (h : ACalls P g args [] fun x H' => ∃ l : List α, R l ∧ x = .sl 0 0 l.length l.length ∧ H' = [.elems S (l.map f)]) :
  ACalls P g args [] fun x H' => ∃ l : List α, R l ∧ x = .p (.list false (l.map f)) ∧ H' = [] := by
 refine ⟨h.1, fun F ι w vs hr hv => ?_⟩
 have hι : ι = [] := List.eq_nil_of_length_eq_zero hr.len
 subst hι
 refine (h.2 F [] w vs hr hv).mono ?_
 rintro e w' ⟨x, H', ι', v, rfl, ⟨l, hl, rfl, rfl⟩, gd, rv⟩
 have hk : Keeps (Own F ι') w' (Own F []) w' := fun b hb hs => ⟨fun h => hb (.inl (by rcases h with h | h; exact h; simp at h)), hs, rfl⟩
 have := rp_own (S := S) (xs := l.map f) (off := 0) (len := l.length) (tot := l.length) (Own F []) (fun b hb h => by
  rcases h with h | h
  ·exact (gd.rel.avo 0 b hb).1 h
  ·simp at h) hk gd.rel rfl (by simp) (by omega) rv
 rw [Nat.zero_add, List.drop_zero, List.take_of_length_le (by simp)] at this
 exact ⟨_, [], [], v, rfl, ⟨l, hl, rfl, rfl⟩, gd.forget hr.env hr.fin, .p _ _ this⟩
theorem ACalls.useV {P g args} {α : Type} {f : α → PV} {R : α → Prop} {H : List Obj} {K : V → List Obj → Prop} (h : ACalls P g args [] fun x H' => ∃ a : α, R a ∧ x = .p (f a) ∧ H' = []) (k : ∀ a, R a → K (.p (f a)) H) (ha : refBs 0 args = true := by rfl) : ACalls P g args H K := by
 refine (h.behind ha H).mono ?_
 rintro x H' ⟨y', H1, ⟨a, ra, rfl, rfl⟩, rfl, rfl⟩
 simpa [shV] using k a ra
theorem ACalls.useE {P g args} {α : Type} {S : Nat} {f : α → PV} {R : List α → Prop} {H : List Obj} {K : V → List Obj → Prop} (h : ACalls P g args [] fun x H' => ∃ l : List α, R l ∧ x = .sl 0 0 l.length l.length ∧ H' = [.elems S (l.map f)])
  (k : ∀ l, R l → K (.sl H.length 0 l.length l.length) (H ++ [.elems S (l.map f)])) (ha : refBs 0 args = true := by rfl) : ACalls P g args H K := by
 refine (h.behind ha H).mono ?_
 rintro x H' ⟨y', H1, ⟨l, rl, rfl, rfl⟩, rfl, rfl⟩
 simpa [shV, shO] using k l rl
theorem ACalls.use {P g args} {y : PV} {H : List Obj} {K : V → List Obj → Prop} (h : ACalls P g args [] fun x H' => x = .p y ∧ H' = []) (k : K (.p y) H) (ha : refBs 0 args = true := by rfl) : ACalls P g args H K := by
 refine (h.behind ha H).mono ?_
 rintro x H' ⟨y', H1, ⟨rfl, rfl⟩, rfl, rfl⟩
 simpa [shV] using k
theorem ACalls.useF {P g args} {S n : Nat} {xs : List PV} {H : List Obj} {K : V → List Obj → Prop} (h : ACalls P g args [] fun x H' => x = .sl 0 0 n n ∧ H' = [.elems S xs]) (k : K (.sl H.length 0 n n) (H ++ [.elems S xs])) (ha : refBs 0 args = true := by rfl) : ACalls P g args H K := by
 refine (h.behind ha H).mono ?_
 rintro x H' ⟨y', H1, ⟨rfl, rfl⟩, rfl, rfl⟩
 simpa [shV, shO] using k
theorem acalls_pure {P : Program} {g : FuncId} {fn : Func} {c : Code} {args : List V} {y : PV} (hf : P.funcs[g]? = some fn) (hb : fn.body = some c) (hg : IsFun P g)
  (h : awp [] P c (args ++ List.replicate (fn.ntmps - args.length) .junk) [] (retA P fn.results.toList fun x _ => x = .p y)) : ACalls P g args [] fun x H' => x = .p y ∧ H' = [] :=
 (acalls_of hf hb hg (awp_sound [] _ _ _ _ h)).pure
theorem acalls_fresh {P : Program} {g : FuncId} {fn : Func} {c : Code} {args : List V} {S n : Nat} {xs : List PV} (hn : xs.length = n) (hf : P.funcs[g]? = some fn) (hb : fn.body = some c) (hg : IsFun P g)
  (h : awp [] P c (args ++ List.replicate (fn.ntmps - args.length) .junk) [] (retA P fn.results.toList fun x H' => ∃ o, x = .sl o 0 n n ∧ oat H' o = .elems S xs)) : ACalls P g args [] fun x H' => x = .sl 0 0 n n ∧ H' = [.elems S xs] :=
 (acalls_of hf hb hg (awp_sound [] _ _ _ _ h)).fresh hn
theorem acalls_freshC (cuts : List Nat) {P : Program} {g : FuncId} {fn : Func} {c : Code} {args : List V} {S n : Nat} {xs : List PV} (hn : xs.length = n) (hf : P.funcs[g]? = some fn) (hb : fn.body = some c) (hg : IsFun P g)
  (h : awp cuts P c (args ++ List.replicate (fn.ntmps - args.length) .junk) [] (retA P fn.results.toList fun x H' => ∃ o, x = .sl o 0 n n ∧ oat H' o = .elems S xs)) : ACalls P g args [] fun x H' => x = .sl 0 0 n n ∧ H' = [.elems S xs] :=
 (acalls_of hf hb hg (awp_sound cuts _ _ _ _ h)).fresh hn
theorem acalls_freshE (cuts : List Nat) {P : Program} {g : FuncId} {fn : Func} {c : Code} {args : List V} {α : Type} {S : Nat} {f : α → PV} {R : List α → Prop} (hf : P.funcs[g]? = some fn) (hb : fn.body = some c) (hg : IsFun P g)
  (h : awp cuts P c (args ++ List.replicate (fn.ntmps - args.length) .junk) [] (retA P fn.results.toList fun x H' => ∃ l : List α, R l ∧ ∃ o, x = .sl o 0 l.length l.length ∧ oat H' o = .elems S (l.map f))) : ACalls P g args [] fun x H' => ∃ l : List α, R l ∧ x = .sl 0 0 l.length l.length ∧ H' = [.elems S (l.map f)] :=
 (acalls_of hf hb hg (awp_sound cuts _ _ _ _ h)).freshE
theorem Weak.ofNil {n0 fr H fr' H'} (t S : Nat) (h : gt fr t = .p (.list true [])) (hn : n0 ≤ H.length) (k : Weak n0 (pt fr t (.sl H.length 0 0 0)) (H ++ [.elems S []]) fr' H') : Weak n0 fr H fr' H' :=
 (Weak.nil t S h hn).trans k
end Go.AM
namespace Go.AM
open Go.RowKit
section
variable {P : Program} {H : List Obj} {t : TypeId} {fr : List V}
def aslV (e : Option (Option Nat × Nat)) (c : Bool) (xs : List PV) (lo hi : V) : Option V := match e, lo, hi with
 | some (none, S), .p (.int _ a), .p (.int _ b) => if allS S xs = true ∧ 0 ≤ a ∧ a ≤ b ∧ b ≤ xs.length then some (.p (.list (c && decide (b = xs.length)) ((xs.take b.toNat).drop a.toNat))) else none
 | _, _, _ => none
def V.isInt : V → Option Int
 | .p (.int _ n) => some n
 | _ => none
theorem V.isInt_some {x : V} {n} (h : x.isInt = some n) : ∃ k, x = .p (.int k n) := by
 unfold V.isInt at h; split at h
 ·rename_i k m; simp at h; exact ⟨k, by rw [h]⟩
 ·cases h
theorem abd_isInt {d : Int} {x : Operand} : abd d fr (some x) = (ev fr x).isInt := rfl
theorem aslV_core {c xs k k' a b} : (asliceP P t c xs a b none).map .p = aslV (telt P t) c xs (.p (.int k a)) (.p (.int k' b)) := by
 simp only [asliceP, aslV]
 cases telt P t with
 | none => rfl
 | some q =>
  obtain ⟨e, S⟩ := q
  cases e with
  | some n => rfl
  | none => simp only []; split <;> rfl
theorem aslV_lo {e c xs lo hi} (h : lo.isInt = none) : aslV e c xs lo hi = none := by
 unfold aslV; split
 ·simp [V.isInt] at h
 ·rfl
theorem aslV_hi {e c xs lo hi} (h : hi.isInt = none) : aslV e c xs lo hi = none := by
 unfold aslV; split
 ·simp [V.isInt] at h
 ·rfl
@[go_sem] theorem aslice_hi {c xs hi} : aslice P H t fr (.p (.list c xs)) none (some hi) none = aslV (telt P t) c xs (.p (.int .i64 0)) (ev fr hi) := by
 simp only [aslice, abd_isInt]
 cases h : (ev fr hi).isInt with
 | none => simp [abd, aslV_hi h]
 | some n => obtain ⟨k, e⟩ := V.isInt_some h; rw [e, ← aslV_core]; rfl
@[go_sem] theorem aslice_lo {c xs lo} : aslice P H t fr (.p (.list c xs)) (some lo) none none = aslV (telt P t) c xs (ev fr lo) (.p (.int .i64 (List.length xs))) := by
 simp only [aslice, abd_isInt]
 cases h : (ev fr lo).isInt with
 | none => simp [aslV_lo h]
 | some n => obtain ⟨k, e⟩ := V.isInt_some h; rw [e, ← aslV_core]; rfl
@[go_sem] theorem aslice_lohi {c xs lo hi} : aslice P H t fr (.p (.list c xs)) (some lo) (some hi) none = aslV (telt P t) c xs (ev fr lo) (ev fr hi) := by
 simp only [aslice, abd_isInt]
 cases h : (ev fr lo).isInt with
 | none => simp [aslV_lo h]
 | some n =>
  cases h2 : (ev fr hi).isInt with
  | none => simp [aslV_hi h2]
  | some m => obtain ⟨k, e⟩ := V.isInt_some h; obtain ⟨k2, e2⟩ := V.isInt_some h2; rw [e, e2, ← aslV_core]
@[go_sem] theorem aslV_map {α : Type} {f : α → PV} {l : List α} {S c k k' a b} (h0 : 0 ≤ a) (h1 : a ≤ b) (h2 : b ≤ (l.length : Int)) :
  aslV (some (none, S)) c (l.map f) (.p (.int k a)) (.p (.int k' b)) = if allS S (l.map f) = true then some (.p (.list (c && decide (b = l.length)) (((l.take b.toNat).drop a.toNat).map f))) else none := by
 simp only [aslV, List.length_map]
 by_cases h : allS S (l.map f) = true
 ·rw [if_pos ⟨h, h0, h1, h2⟩, if_pos h]; simp
 ·rw [if_neg (fun q => h q.1), if_neg h]
end
def aidxB (P : Program) (d : Option TypeDesc) (x i : V) : Option V :=
 match d, x, i with
 | some .string, .p (.str s), .p (.int _ n) => if 0 ≤ n then (s[n.toNat]?).map fun b => .p (.int .u8 b.toNat) else none
 | some (.array k e), .p (.agg cs), .p (.int _ n) => if 0 ≤ n ∧ n < k then (match tsz P e with | some m => (apart P e cs (n.toNat * m)).map .p | none => none) else none
 | _, _, _ => none
@[go_sem] theorem aidxv_B {P : Program} {t : TypeId} {x i : V} : aidxv P t x i = aidxB P (P.underlying t) x i := Eq.trans rfl rfl
@[go_sem] theorem aidxB_str {P : Program} {s : List UInt8} {k n} (h0 : 0 ≤ n) (h1 : n < (s.length : Int)) : aidxB P (some .string) (.p (.str s)) (.p (.int k n)) = some (.p (.int .u8 ((nth s n.toNat).toNat : Nat))) := by
 have h : n.toNat < s.length := by omega
 simp [aidxB, h0, h, nth_get h]
def aslS (d : Option TypeDesc) (s : List UInt8) (lo hi : V) : Option V := match d, lo, hi with
 | some .string, .p (.int _ a), .p (.int _ b) => if 0 ≤ a ∧ a ≤ b ∧ b ≤ s.length then some (.p (.str ((s.take b.toNat).drop a.toNat))) else none
 | _, _, _ => none
theorem aslS_lo {d s lo hi} (h : lo.isInt = none) : aslS d s lo hi = none := by
 unfold aslS; split
 ·simp [V.isInt] at h
 ·rfl
theorem aslS_hi {d s lo hi} (h : hi.isInt = none) : aslS d s lo hi = none := by
 unfold aslS; split
 ·simp [V.isInt] at h
 ·rfl
section
variable {P : Program} {H : List Obj} {t : TypeId} {fr : List V}
theorem aslS_core {s : List UInt8} {k k' a b} : (match P.underlying t with | some .string => (if 0 ≤ a ∧ a ≤ b ∧ b ≤ (s.length : Int) then some (V.p (.str ((s.take b.toNat).drop a.toNat))) else none) | _ => none) = aslS (P.underlying t) s (.p (.int k a)) (.p (.int k' b)) := by
 simp only [aslS]
 cases P.underlying t with
 | none => rfl
 | some d => cases d <;> rfl
@[go_sem] theorem aslice_slohi {s lo hi} : aslice P H t fr (.p (.str s)) (some lo) (some hi) none = aslS (P.underlying t) s (ev fr lo) (ev fr hi) := by
 simp only [aslice, abd_isInt]
 cases h : (ev fr lo).isInt with
 | none => rw [aslS_lo h]; simp
 | some n =>
  cases h2 : (ev fr hi).isInt with
  | none => rw [aslS_hi h2]; simp
  | some m =>
   obtain ⟨k, e⟩ := V.isInt_some h
   obtain ⟨k2, e2⟩ := V.isInt_some h2
   rw [e, e2, ← aslS_core]
   cases P.underlying t with
   | none => rfl
   | some d => cases d <;> rfl
end
@[go_sem low] theorem app1_gen {H : List Obj} {S b xs ys o n} : app1 H (some (S, b)) (.elems S xs) o n (some ys) = if xs.length = n ∧ okE S ys = true ∧ (n + ys.length) * b ≤ 140737488355328 ∧ n + ys.length ≤ 140737488355328 then some (.sl o 0 (n + ys.length) (n + ys.length), ost H o (.elems S (xs ++ ys))) else none := by simp [app1]
@[go_sem] theorem wkV_fne {H : List Obj} {n f a b f' a' b'} : wkV H n (.fn f a b) (.fn f' a' b') = ((f' = f ∧ a' = a ∧ b' = b) ∧ refB n (.fn f a b) = true) := by simp [wkV, frz]
@[go_sem] theorem refB_fn {n f a b} : refB n (.fn f a b) = (refBs n a && refBs n b) := by simp [refB]
@[go_sem] theorem refB_p {n x} : refB n (.p x) = true := by simp [refB]
@[go_sem] theorem refB_ptr {n o off} : refB n (.ptr o off) = decide (o < n) := by simp [refB]
@[go_sem] theorem refBs_nil {n} : refBs n [] = true := by simp [refBs]
@[go_sem] theorem refBs_cons {n x l} : refBs n (x :: l) = (refB n x && refBs n l) := by simp [refBs]
theorem ACalls.useH {P g args H} {v : V} {H2 : List Obj} {K : V → List Obj → Prop} (h : ACalls P g args H fun x H' => x = v ∧ H' = H2) (k : K v H2) : ACalls P g args H K :=
 h.mono (by rintro _ _ ⟨rfl, rfl⟩; exact k)
theorem allS_map {α : Type} {f : α → PV} {S : Nat} (h : ∀ x, (f x).cells.length = S) (l : List α) : allS S (l.map f) = true := by
 cases l with
 | nil => rfl
 | cons x l => simp [allS, h]
@[go_sem] theorem amax_ge {k k'} {a b : Int} (h : b ≤ a) : amax false [.p (.int k a), .p (.int k' b)] = some (.int k a) := by simp [amax]; omega
@[go_sem] theorem amin_le {k k'} {a b : Int} (h : a ≤ b) : amax true [.p (.int k a), .p (.int k' b)] = some (.int k a) := by simp [amax]; omega
@[go_sem] theorem amin_gt {k k'} {a b : Int} (h : b < a) : amax true [.p (.int k a), .p (.int k' b)] = some (.int k b) := by simp [amax, h]
def amakeB (F : Option (Nat × Nat × PV)) (H : List Obj) (x y : V) : Option (V × List Obj) := match F, x, y with
 | some (S, by', z), .p (.int .i64 n), .p (.int .i64 m) => if n = m ∧ 0 ≤ n ∧ (by' : Int) * n ≤ 281474976710656 ∧ n ≤ 281474976710656 then some (.sl H.length 0 n.toNat n.toNat, H ++ [.elems S (List.replicate n.toNat z)]) else none
 | _, _, _ => none
theorem amem_makeB {P : Program} {t : TypeId} {fr : List V} {H : List Obj} {x y : Operand} {F} (h : makeF P t = some F) : amem P (.makeSlice t x y) fr H = amakeB (some F) H (ev fr x) (ev fr y) := by
 unfold makeF at h
 split at h
 ·rename_i e hu
  split at h
  ·rename_i S' z' b h1 h2 h3
   split at h
   ·rename_i hc
    simp at h; subst h
    have h3' : (P.info? e).map (fun x => (x.bytes : Int)) = some (b : Int) := by
     cases hi : P.info? e with
     | none => simp [hi] at h3
     | some i => simp [hi] at h3 ⊢; rw [h3]
    simp only [amem, hu, h2, hc.1, if_true, amake, h1, h3']
    generalize ev fr x = X
    generalize ev fr y = Y
    by_cases hX : ∃ n, X = .p (.int .i64 n)
    ·obtain ⟨n, rfl⟩ := hX
     by_cases hY : ∃ m, Y = .p (.int .i64 m)
     ·obtain ⟨m, rfl⟩ := hY
      simp [amakeB, hc.2]
     ·have e1 : amakeB (some (S', b, z')) H (.p (.int .i64 n)) Y = none := by
       unfold amakeB; split
       ·rename_i hm; exact absurd ⟨_, rfl⟩ hY
       ·rfl
      rw [e1]; split
      ·exact absurd ⟨_, rfl⟩ hY
      ·rfl
    ·have e1 : amakeB (some (S', b, z')) H X Y = none := by
      unfold amakeB; split
      ·exact absurd ⟨_, rfl⟩ hX
      ·rfl
     rw [e1]; split
     ·exact absurd ⟨_, rfl⟩ hX
     ·rfl
   ·cases h
  ·cases h
 ·cases h
@[go_sem] theorem amakeB_in {H : List Obj} {S b : Nat} {z n} (h0 : 0 ≤ n) (h1 : (b : Int) * n ≤ 281474976710656) (h2 : n ≤ 281474976710656) : amakeB (some (S, b, z)) H (.p (.int .i64 n)) (.p (.int .i64 n)) = some (.sl H.length 0 n.toNat n.toNat, H ++ [.elems S (List.replicate n.toNat z)]) := by
 simp only [amakeB]; rw [if_pos ⟨trivial, h0, h1, h2⟩]
theorem or_nat (x y : Nat) (hx : x < 9223372036854775808) (hy : y < 9223372036854775808) : IntKind.i64.wrap ((BitVec.ofInt 64 (x : Int) ||| BitVec.ofInt 64 (y : Int)).toNat : Int) = ((x ||| y : Nat) : Int) := by
 have e : (BitVec.ofInt 64 (x : Int) ||| BitVec.ofInt 64 (y : Int)).toNat = x ||| y := by
  simp [BitVec.toNat_or, Nat.mod_eq_of_lt (show x < 18446744073709551616 by omega), Nat.mod_eq_of_lt (show y < 18446744073709551616 by omega)]
 have h : x ||| y < 2 ^ 63 := Nat.or_lt_two_pow (by omega) (by omega)
 rw [e]
 exact IntWalk.i64_in _ (by omega)
theorem and_nat (x y : Nat) (hx : x < 9223372036854775808) (hy : y < 9223372036854775808) : IntKind.i64.wrap ((BitVec.ofInt 64 (x : Int) &&& BitVec.ofInt 64 (y : Int)).toNat : Int) = ((x &&& y : Nat) : Int) := by
 have e : (BitVec.ofInt 64 (x : Int) &&& BitVec.ofInt 64 (y : Int)).toNat = x &&& y := by
  simp [BitVec.toNat_and, Nat.mod_eq_of_lt (show x < 18446744073709551616 by omega), Nat.mod_eq_of_lt (show y < 18446744073709551616 by omega)]
 have h : x &&& y ≤ x := Nat.and_le_left
 rw [e]
 exact IntWalk.i64_in _ (by omega)
@[go_sem high] theorem abin_orN {P : Program} {t : TypeId} {x y : Nat} (hx : x < 9223372036854775808) (hy : y < 9223372036854775808) : abin P .or t (.p (.int .i64 (x : Int))) (.p (.int .i64 (y : Int))) = some (.int .i64 ((x ||| y : Nat) : Int)) := by
 rw [abin_or]; exact congrArg (fun q => some (PV.int .i64 q)) (or_nat x y hx hy)
@[go_sem high] theorem abin_andN {P : Program} {t : TypeId} {x y : Nat} (hx : x < 9223372036854775808) (hy : y < 9223372036854775808) : abin P .and t (.p (.int .i64 (x : Int))) (.p (.int .i64 (y : Int))) = some (.int .i64 ((x &&& y : Nat) : Int)) := by
 rw [abin_and]; exact congrArg (fun q => some (PV.int .i64 q)) (and_nat x y hx hy)
def pw (k : Nat) : Nat := 2 ^ k
theorem pw_succ (k : Nat) : pw (k + 1) = 2 * pw k := by simp [pw, Nat.pow_succ]; omega
theorem pw_le {k m : Nat} (h : k ≤ m) : pw k ≤ pw m := Nat.pow_le_pow_right (by omega) h
theorem pw_pos (k : Nat) : 0 < pw k := Nat.pow_pos (by omega)
theorem pw_62 : pw 62 = 4611686018427387904 := by decide
@[go_sem high] theorem abin_shl1 {P : Program} {t : TypeId} {k'} {a : Int} (h0 : 0 ≤ a) (h1 : a ≤ 62) : abin P .shl t (.p (.int .i64 1)) (.p (.int k' a)) = some (.int .i64 ((pw a.toNat : Nat) : Int)) := by
 rw [abin_shl h0]
 have h2 : min a.toNat IntKind.i64.bits = a.toNat := by show min a.toNat 64 = a.toNat; omega
 rw [h2, Int.one_mul]
 have h3 : ((2 : Int) ^ a.toNat) = ((pw a.toNat : Nat) : Int) := by simp [pw]
 rw [h3]
 have := pw_le (show a.toNat ≤ 62 by omega)
 have := pw_62
 rw [IntWalk.i64_in _ (by omega)]
attribute [go_sem] List.length_append List.map_append not_false_eq_true not_true_eq_false false_and and_false true_or or_true false_or or_false Classical.not_not Bool.false_eq_true Bool.and_false Bool.false_and
end Go.AM
namespace Go.AM
open Go.RowKit
theorem hd_mono {P ds frJ H} {K K' : List V → Prop} : ∀ (l : List Oper) (i : Nat) (vals : List V), (∀ ys, ys.length = vals.length + l.length → K ys → K' ys) → hd P ds frJ H K i l vals → hd P ds frJ H K' i l vals
 | [], i, vals, hk, h => hk vals rfl h
 | o :: l, i, vals, hk, h => by
  have ih : ∀ y, hd P ds frJ H K (i + 1) l (vals ++ [y]) → hd P ds frJ H K' (i + 1) l (vals ++ [y]) := fun y => hd_mono l (i + 1) (vals ++ [y]) fun ys hy => hk ys (by simp at hy ⊢; omega)
  simp only [hd] at h ⊢
  split at h
  ·obtain ⟨y, h1, h2⟩ := h
   exact ⟨y, h1, ih y h2⟩
  ·unfold aguard at h ⊢
   split at h
   ·exact ⟨fun e => by obtain ⟨y, h1, h2⟩ := h.1 e; exact ⟨y, h1, ih y h2⟩, fun e => ih _ (h.2 e)⟩
   ·exact ih _ h
   ·exact h.elim
def hall : List (Option Nat) → List V → List V → List V
 | some d :: ds, v :: vals, fr => hall ds vals (pt fr d v)
 | none :: ds, _ :: vals, fr => hall ds vals fr
 | _, _, fr => fr
theorem hset_shift (d : Option Nat) (v : V) (ds : List (Option Nat)) (vals : List V) : ∀ (l : List Nat) (fr : List V), hset (d :: ds) (v :: vals) (l.map (· + 1)) fr = hset ds vals l fr
 | [], fr => rfl
 | j :: l, fr => by
  simp only [List.map_cons, hset, List.getElem?_cons_succ]
  split <;> exact hset_shift d v ds vals l _
theorem hset_range : ∀ (ds : List (Option Nat)) (vals : List V) (fr : List V), vals.length = ds.length → hset ds vals (List.range ds.length) fr = hall ds vals fr
 | [], [], fr, _ => rfl
 | d :: ds, v :: vals, fr, h => by
  have ih := fun fr => hset_range ds vals fr (by simpa using h)
  rw [List.length_cons, List.range_succ_eq_map]
  cases d with
  | none => simp only [hset, List.getElem?_cons_zero, hall]; rw [hset_shift]; exact ih fr
  | some d => simp only [hset, List.getElem?_cons_zero, hall]; rw [hset_shift]; exact ih _
 | [], _ :: _, _, h => by simp at h
 | _ :: _, [], _, h => by simp at h
theorem awp_drawnF {P : Program} {id : Nat} {l : List Oper} {fr : List V} {H : List Obj} {Q : Exit → List V → List Obj → Prop} {t} (hm : P.follows .mixedOrders = true) (hB : headB (List.toArray l) l.length = true)
  (h : hd P (l.map (·.dst)) (hjunk (l.map (·.dst)) fr) H (hide (fun vals => Q .normal (hall (l.map (·.dst)) vals (hjunk (l.map (·.dst)) fr)) H) ⟨⟩) 0 l []) :
  AWP P (.region id (hide (List.toArray l) t) true) fr H Q := by
 refine awp_drawn (ops := List.toArray l) l.length hm hB ?_
 have e0 : (List.toArray l).toList = l := rfl
 rw [e0]
 have e1 : (l.map (fun x => Oper.dst x)).take l.length = l.map (·.dst) := List.take_of_length_le (by simp)
 have e2 : l.take l.length = l := List.take_length
 have e3 : l.drop l.length = [] := by simp
 rw [e1, e2, e3]
 refine hd_mono _ _ _ (fun ys hy hk => ?_) h
 have e4 := hset_range (l.map (·.dst)) ys (hjunk (l.map (·.dst)) fr) (by simp at hy ⊢; omega)
 rw [List.length_map] at e4
 simp only [aops]
 rw [e4]
 exact hk
def exq (A : V → Prop) (B : V → Prop) : Prop := ∃ y, A y ∧ B y
section
variable {P : Program} {ds : List (Option Nat)} {frJ : List V} {H : List Obj} {K : List V → Prop} {i : Nat} {r : List Oper} {vals : List V} {d : Option Nat} {op : Op} {t : TypeId} {ps : String} {af : Array Edge}
@[go_sem ↓] theorem hd_nil : hd P ds frJ H K i [] vals = K vals := Eq.trans rfl rfl
@[go_sem ↓] theorem hd_cons : hd P ds frJ H K i (⟨d, op, t, ps, af, none⟩ :: r) vals = exq (fun y => astepF P ⟨d, op, t, ps, af, none⟩ (idF (hset ds vals (depsOf i ⟨d, op, t, ps, af, none⟩) frJ)) H (hide (fun x H' => x = y ∧ H' = H) ⟨⟩)) (hide (fun y => hd P ds frJ H K (i + 1) r (vals ++ [y])) ⟨⟩) := Eq.trans rfl rfl
@[go_sem ↓, go_sem] theorem exq_eq {v : V} {B : V → Prop} {t} : exq (fun y => v = y) (hide B t) = B v := by simp [exq, hide]
@[go_sem] theorem depsOf_eq {l : List Edge} {g} : depsOf i ⟨d, op, t, ps, List.toArray l, g⟩ = (l.filter fun e => Region.binds .any e && decide (e.on < i)).map (·.on) := Eq.trans rfl rfl
@[go_sem] theorem binds_data {on} : Region.binds .any ⟨on, .data⟩ = true := Eq.trans rfl rfl
@[go_sem] theorem binds_phase {on} : Region.binds .any ⟨on, .phase⟩ = true := Eq.trans rfl rfl
@[go_sem] theorem binds_chain {on} : Region.binds .any ⟨on, .chain⟩ = true := Eq.trans rfl rfl
@[go_sem] theorem binds_text {on k} : Region.binds .any ⟨on, .textOnly k⟩ = false := Eq.trans rfl rfl
@[go_sem] theorem binds_gc {on k} : Region.binds .any ⟨on, .gcOnly k⟩ = false := Eq.trans rfl rfl
def hset1 (ds : List (Option Nat)) (vals : List V) (l : List Nat) (fr : List V) (a : Option (Option Nat)) (v : Option V) : List V := match a, v with
 | some (some d), some v => hset ds vals l (pt fr d v)
 | _, _ => hset ds vals l fr
@[go_sem] theorem hset_nil {fr} : hset ds vals [] fr = fr := Eq.trans rfl rfl
@[go_sem] theorem hset_cons {j l fr} : hset ds vals (j :: l) fr = hset1 ds vals l fr ds[j]? vals[j]? := by simp only [hset, hset1]; split <;> simp_all
@[go_sem] theorem hset1_some {l fr d v} : hset1 ds vals l fr (some (some d)) (some v) = hset ds vals l (pt fr d v) := Eq.trans rfl rfl
@[go_sem] theorem hall_some {d ds v vals fr} : hall (some d :: ds) (v :: vals) fr = hall ds vals (pt fr d v) := Eq.trans rfl rfl
@[go_sem] theorem hall_nil {fr} : hall [] [] fr = fr := Eq.trans rfl rfl
@[go_sem] theorem hjunk_nil {fr} : hjunk [] fr = fr := Eq.trans rfl rfl
@[go_sem] theorem hjunk_some {d l fr} : hjunk (some d :: l) fr = hjunk l (pt fr d .junk) := Eq.trans rfl rfl
theorem exq_call {f azs} {z : PV} {B : V → Prop} {t} (h : ACalls P f azs [] fun x H' => x = .p z ∧ H' = []) (k : B (.p z)) (ha : refBs 0 azs = true := by rfl) :
  exq (fun y => ACalls P f azs H (hide (hide (fun x H' => x = y ∧ H' = H) ⟨⟩) ⟨⟩)) (hide B t) :=
 ⟨.p z, h.use ⟨rfl, rfl⟩ ha, k⟩
end
section
variable {P : Program} {fr : List V} {H : List Obj} {k : V → List Obj → Prop} {d : Option Nat} {t : TypeId} {ps : String} {af : Array Edge} {g : Option (Nat × Bool)}
@[go_sem ↓] theorem astepF_lit {u n l} : astepF P ⟨d, .buildSlice u n (List.toArray l), t, ps, af, g⟩ fr H k = pst ((alitF (litF P u) H n (l.map fun x => (x.1, ev fr x.2))).map .p) (hide (fun v => k v H) ⟨⟩) := by
 simp only [astepF]
 cases (alitF (litF P u) H n (l.map fun x => (x.1, ev fr x.2))) <;> simp [pst, hide]
@[go_sem] theorem alitF_some {S n l} : alitF (some S) H n l = if n = l.length ∧ n * S ≤ 16777216 ∧ 0 < S then (litE H S 0 l).map (.list false) else none := Eq.trans rfl rfl
@[go_sem ↓] theorem astepF_move {x} : astepF P ⟨d, .move x, t, ps, af, g⟩ fr H k = astep P ⟨d, .move x, t, ps, af, g⟩ fr H k := rfl
@[go_sem ↓] theorem astepF_assign {x} : astepF P ⟨d, .assign x, t, ps, af, g⟩ fr H k = astep P ⟨d, .assign x, t, ps, af, g⟩ fr H k := rfl
@[go_sem ↓] theorem astepF_pick {x y z} : astepF P ⟨d, .pick x y z, t, ps, af, g⟩ fr H k = astep P ⟨d, .pick x y z, t, ps, af, g⟩ fr H k := rfl
@[go_sem ↓] theorem astepF_alloc {x} : astepF P ⟨d, .alloc x, t, ps, af, g⟩ fr H k = astep P ⟨d, .alloc x, t, ps, af, g⟩ fr H k := rfl
@[go_sem ↓] theorem astepF_box {x y} : astepF P ⟨d, .box x y, t, ps, af, g⟩ fr H k = astep P ⟨d, .box x y, t, ps, af, g⟩ fr H k := rfl
@[go_sem ↓] theorem astepF_build {x y} : astepF P ⟨d, .build x y, t, ps, af, g⟩ fr H k = astep P ⟨d, .build x y, t, ps, af, g⟩ fr H k := rfl
@[go_sem ↓] theorem astepF_load {x y} : astepF P ⟨d, .load x y, t, ps, af, g⟩ fr H k = astep P ⟨d, .load x y, t, ps, af, g⟩ fr H k := rfl
@[go_sem ↓] theorem astepF_store {x y z} : astepF P ⟨d, .store x y z, t, ps, af, g⟩ fr H k = astep P ⟨d, .store x y z, t, ps, af, g⟩ fr H k := rfl
@[go_sem ↓] theorem astepF_nilCheck {x} : astepF P ⟨d, .nilCheck x, t, ps, af, g⟩ fr H k = astep P ⟨d, .nilCheck x, t, ps, af, g⟩ fr H k := rfl
@[go_sem ↓] theorem astepF_binOp {x y z u v} : astepF P ⟨d, .binOp x y z u v, t, ps, af, g⟩ fr H k = astep P ⟨d, .binOp x y z u v, t, ps, af, g⟩ fr H k := rfl
@[go_sem ↓] theorem astepF_unOp {x y z} : astepF P ⟨d, .unOp x y z, t, ps, af, g⟩ fr H k = astep P ⟨d, .unOp x y z, t, ps, af, g⟩ fr H k := rfl
@[go_sem ↓] theorem astepF_convert {x y z} : astepF P ⟨d, .convert x y z, t, ps, af, g⟩ fr H k = astep P ⟨d, .convert x y z, t, ps, af, g⟩ fr H k := rfl
@[go_sem ↓] theorem astepF_makeFunc {x y z} : astepF P ⟨d, .makeFunc x y z, t, ps, af, g⟩ fr H k = astep P ⟨d, .makeFunc x y z, t, ps, af, g⟩ fr H k := rfl
@[go_sem ↓] theorem astepF_makeSlice {x y z} : astepF P ⟨d, .makeSlice x y z, t, ps, af, g⟩ fr H k = astep P ⟨d, .makeSlice x y z, t, ps, af, g⟩ fr H k := rfl
@[go_sem ↓] theorem astepF_slice {x y z u v} : astepF P ⟨d, .slice x y z u v, t, ps, af, g⟩ fr H k = astep P ⟨d, .slice x y z u v, t, ps, af, g⟩ fr H k := rfl
@[go_sem ↓] theorem astepF_fieldAddr {x y z} : astepF P ⟨d, .fieldAddr x y z, t, ps, af, g⟩ fr H k = astep P ⟨d, .fieldAddr x y z, t, ps, af, g⟩ fr H k := rfl
@[go_sem ↓] theorem astepF_field {x y z} : astepF P ⟨d, .field x y z, t, ps, af, g⟩ fr H k = astep P ⟨d, .field x y z, t, ps, af, g⟩ fr H k := rfl
@[go_sem ↓] theorem astepF_indexAddr {x y z} : astepF P ⟨d, .indexAddr x y z, t, ps, af, g⟩ fr H k = astep P ⟨d, .indexAddr x y z, t, ps, af, g⟩ fr H k := rfl
@[go_sem ↓] theorem astepF_index {x y z} : astepF P ⟨d, .index x y z, t, ps, af, g⟩ fr H k = astep P ⟨d, .index x y z, t, ps, af, g⟩ fr H k := rfl
@[go_sem ↓] theorem astepF_extract {x y} : astepF P ⟨d, .extract x y, t, ps, af, g⟩ fr H k = astep P ⟨d, .extract x y, t, ps, af, g⟩ fr H k := rfl
@[go_sem ↓] theorem astepF_call {x y z} : astepF P ⟨d, .call ⟨.value x, y, z⟩, t, ps, af, g⟩ fr H k = astep P ⟨d, .call ⟨.value x, y, z⟩, t, ps, af, g⟩ fr H k := rfl
@[go_sem ↓] theorem astepF_len {y z} : astepF P ⟨d, .call ⟨.builtin .len, y, z⟩, t, ps, af, g⟩ fr H k = astep P ⟨d, .call ⟨.builtin .len, y, z⟩, t, ps, af, g⟩ fr H k := rfl
@[go_sem ↓] theorem astepF_max {y z} : astepF P ⟨d, .call ⟨.builtin .max, y, z⟩, t, ps, af, g⟩ fr H k = astep P ⟨d, .call ⟨.builtin .max, y, z⟩, t, ps, af, g⟩ fr H k := rfl
@[go_sem ↓] theorem astepF_min {y z} : astepF P ⟨d, .call ⟨.builtin .min, y, z⟩, t, ps, af, g⟩ fr H k = astep P ⟨d, .call ⟨.builtin .min, y, z⟩, t, ps, af, g⟩ fr H k := rfl
theorem astepF_congr {o fr' H'} (h : fr = fr') (h2 : H = H') : astepF P o fr H k = astepF P o fr' H' k := by rw [h, h2]
end
attribute [congr] astepF_congr
attribute [go_sem] List.filter_cons List.filter_nil
end Go.AM
namespace Go.AM
open Go.RowKit
def vw (H : List Obj) : V → Option V
 | .p x => some (.p x)
 | .fn f [] [] => some (.fn f [] [])
 | .sl o off len tot => match oat H o with
  | .elems _ xs => if xs.length = tot ∧ off + len ≤ tot then some (.p (.list false ((xs.take (off + len)).drop off))) else none
  | _ => none
 | _ => none
def vws (H : List Obj) : List V → Option (List V)
 | [] => some []
 | x :: l => match vw H x, vws H l with | some y, some ys => some (y :: ys) | _, _ => none
abbrev Noth : Nat → Prop := fun _ => False
theorem own_noth {b : Nat} : ¬ Own Noth [] b := by simp [Own]
theorem rel_noth {w : World} (he : Env Noth [] w) : Rel Noth [] [] w := ⟨⟨rfl, fun b hb => hb.elim, fun i j b hi => by simp at hi, fun i b hi => by simp at hi, fun o cs ho => by simp at ho, fun o S xs ho => by simp at ho, fun o es ho => by simp at ho, fun o T E r bs ho => by simp at ho⟩, he⟩
def rd1 (H : List Obj) : V → Option PV
 | .p x => some x
 | .sl o off len tot => match oat H o with
  | .elems _ xs => if xs.length = tot ∧ off + len ≤ tot then some (.list false ((xs.take (off + len)).drop off)) else none
  | _ => none
 | _ => none
def rds (H : List Obj) : List V → Option (List PV)
 | [] => some []
 | x :: l => match rd1 H x, rds H l with | some y, some ys => some (y :: ys) | _, _ => none
def rd (H : List Obj) : V → Option PV
 | .agg cs => (rds H cs).map .agg
 | x => rd1 H x
@[go_sem] theorem allP_sl {o off len tot r} : allP (.sl o off len tot :: r) = none := Eq.trans rfl rfl
attribute [go_sem] Option.map_none
end Go.AM
set_option linter.unusedVariables false
set_option linter.unusedSimpArgs false
namespace Go.Proofs.YtcdoglogglbemaaGreatDoor.K
open Go Go.AM
def Ed (be : List (Int × Int)) (a b : Nat) : Prop := ∃ p ∈ be, p.1 = (a : Int) ∧ p.2 = (b : Int)
inductive Ch (be : List (Int × Int)) : Nat → Nat → Prop where
 | one {a b} (h : Ed be a b) : Ch be a b
 | more {a b c} (h : Ch be a b) (k : Ed be b c) : Ch be a c
def Val (n : Nat) (be : List (Int × Int)) : Prop := ∀ p ∈ be, 0 ≤ p.1 ∧ p.1 < n ∧ 0 ≤ p.2 ∧ p.2 < n
theorem Ch.lt {n be} (hv : Val n be) {a b} (h : Ch be a b) : a < n ∧ b < n := by
 induction h with
 | one h => obtain ⟨p, hp, h1, h2⟩ := h; have := hv p hp; omega
 | more _ h ih => obtain ⟨p, hp, h1, h2⟩ := h; have := hv p hp; omega
def cst (out : List Nat) (p : Int × Int) : List Nat := out.set p.2.toNat (nth out p.2.toNat ||| nth out p.1.toNat ||| pw p.1.toNat)
def pas (out : List Nat) (be : List (Int × Int)) : List Nat := be.foldl cst out
structure Snd (n : Nat) (be : List (Int × Int)) (out : List Nat) : Prop where
 len : out.length = n
 lt : ∀ b, b < n → nth out b < pw n
 snd : ∀ a b, b < n → (nth out b).testBit a = true → Ch be a b
structure Clo (n : Nat) (be : List (Int × Int)) (out : List Nat) : Prop extends Snd n be out where
 cmp : ∀ a b, Ch be a b → (nth out b).testBit a = true
theorem nth_set (l : List Nat) (i j v : Nat) (h : j < l.length) : nth (l.set i v) j = if i = j then v else nth l j := by
 simp only [nth, List.getD_eq_getElem?_getD, List.getElem?_set]
 by_cases hij : i = j
 ·subst hij; simp [h]
 ·simp [hij]
theorem Snd.zero (n be) : Snd n be (List.replicate n 0) := by
 refine ⟨by simp, fun b hb => ?_, fun a b hb h => ?_⟩
 ·rw [nth_get (by simpa using hb)]; simp [pw_pos]
 ·rw [nth_get (by simpa using hb)] at h; simp at h
theorem testBit_pw (a b : Nat) : (pw a).testBit b = decide (a = b) := by simp [pw, Nat.testBit_two_pow]
theorem Snd.step {n be out} (hv : Val n be) (hs : Snd n be out) {p} (hp : p ∈ be) : Snd n be (cst out p) := by
 obtain ⟨h1, h2, h3, h4⟩ := hv p hp
 refine ⟨by simp [cst, hs.len], fun b hb => ?_, fun a b hb h => ?_⟩
 ·rw [cst, nth_set _ _ _ _ (by rw [hs.len]; exact hb)]
  split
  ·have e1 := hs.lt p.2.toNat (by omega)
   have e2 := hs.lt p.1.toNat (by omega)
   have e3 : pw p.1.toNat < pw n := by
    have := pw_succ p.1.toNat
    have h5 : pw (p.1.toNat + 1) ≤ pw n := pw_le (by omega)
    have := pw_pos p.1.toNat
    omega
   exact Nat.or_lt_two_pow (Nat.or_lt_two_pow e1 e2) e3
  ·exact hs.lt b hb
 ·rw [cst, nth_set _ _ _ _ (by rw [hs.len]; exact hb)] at h
  split at h
  ·rename_i hb2
   have hE : Ed be p.1.toNat b := ⟨p, hp, by omega, by omega⟩
   simp only [Nat.testBit_or, Bool.or_eq_true] at h
   rcases h with (h | h) | h
   ·exact hs.snd a b hb (by rw [← hb2]; exact h)
   ·exact (hs.snd a _ (by omega) h).more hE
   ·rw [testBit_pw] at h
    simp at h
    subst h
    exact .one hE
  ·exact hs.snd a b hb h
theorem Snd.rnd {n be out} (hv : Val n be) (hs : Snd n be out) : ∀ (l : List (Int × Int)), (∀ p ∈ l, p ∈ be) → Snd n be (pas out l) := by
 intro l
 induction l generalizing out with
 | nil => intro _; exact hs
 | cons p l ih => intro h; exact ih (hs.step hv (h p (by simp))) fun q hq => h q (by simp [hq])
theorem le_or (x y : Nat) : x ≤ x ||| y := Nat.left_le_or
def tot (l : List Nat) : Nat := l.foldr (· + ·) 0
theorem tot_set : ∀ (l : List Nat) (i v : Nat), i < l.length → tot (l.set i v) + nth l i = tot l + v
 | [], i, v, h => by simp at h
 | x :: l, 0, v, h => by simp [tot, nth]; omega
 | x :: l, i + 1, v, h => by
  have := tot_set l i v (by simpa using h)
  simp only [List.set_cons_succ, tot, List.foldr_cons, nth, List.getD_cons_succ] at this ⊢
  omega
theorem tot_le : ∀ (l : List Nat) (m : Nat), (∀ i, i < l.length → nth l i < m) → tot l ≤ l.length * m
 | [], m, h => by simp [tot]
 | x :: l, m, h => by
  have h0 := h 0 (by simp)
  have := tot_le l m fun i hi => by have := h (i + 1) (by simpa using hi); simpa [nth] using this
  simp only [tot, List.foldr_cons, List.length_cons, Nat.add_mul, nth, List.getD_cons_zero] at this h0 ⊢
  omega
theorem cst_tot (out : List Nat) (p : Int × Int) (h : p.2.toNat < out.length) : tot out ≤ tot (cst out p) ∧ (tot (cst out p) = tot out → cst out p = out) := by
 have e := tot_set out p.2.toNat (nth out p.2.toNat ||| nth out p.1.toNat ||| pw p.1.toNat) h
 have h1 : nth out p.2.toNat ≤ nth out p.2.toNat ||| nth out p.1.toNat ||| pw p.1.toNat := Nat.le_trans (le_or _ _) (le_or _ _)
 refine ⟨by rw [cst]; omega, fun he => ?_⟩
 rw [cst] at he ⊢
 have : nth out p.2.toNat ||| nth out p.1.toNat ||| pw p.1.toNat = nth out p.2.toNat := by omega
 rw [this]
 apply List.ext_getElem (by simp)
 intro i h2 h3
 rw [List.getElem_set]
 split
 ·rename_i h4; subst h4; rw [nth_get h]
 ·rfl
end Go.Proofs.YtcdoglogglbemaaGreatDoor.K
set_option linter.unusedVariables false
set_option linter.unusedSimpArgs false
namespace Go.Proofs.YtcdoglogglbemaaGreatDoor.K
open Go Go.AM
theorem pas_append (out l m) : pas out (l ++ m) = pas (pas out l) m := by simp [pas, List.foldl_append]
theorem pas_tot {n be} (hv : Val n be) : ∀ (l : List (Int × Int)) (out : List Nat), (∀ p ∈ l, p ∈ be) → Snd n be out → tot out ≤ tot (pas out l) ∧ (tot (pas out l) = tot out → pas out l = out ∧ ∀ p ∈ l, cst out p = out)
 | [], out, _, _ => ⟨Nat.le_refl _, fun _ => ⟨rfl, fun p hp => by simp at hp⟩⟩
 | p :: l, out, hl, hs => by
  obtain ⟨h1, h2, h3, h4⟩ := hv p (hl p (by simp))
  have c := cst_tot out p (by rw [hs.len]; omega)
  have r := pas_tot hv l (cst out p) (fun q hq => hl q (by simp [hq])) (hs.step hv (hl p (by simp)))
  refine ⟨Nat.le_trans c.1 r.1, fun e => ?_⟩
  have e : tot (pas (cst out p) l) = tot out := e
  have e1 : tot (cst out p) = tot out := by have := r.1; have := c.1; omega
  have e2 := c.2 e1
  have e3 : tot (pas (cst out p) l) = tot (cst out p) := by rw [e1]; exact e
  obtain ⟨e4, e5⟩ := r.2 e3
  rw [e2] at e4 e5
  refine ⟨by show pas (cst out p) l = out; rw [e2]; exact e4, fun q hq => ?_⟩
  rcases List.mem_cons.1 hq with rfl | hq
  ·exact e2
  ·exact e5 q hq
theorem Snd.clo {n be out} (hv : Val n be) (hs : Snd n be out) (h : tot (pas out be) = tot out) : Clo n be out := by
 have hc := ((pas_tot hv be out (fun _ h => h) hs).2 h).2
 have key : ∀ p ∈ be, ∀ a, (a = p.1.toNat ∨ (nth out p.1.toNat).testBit a = true) → (nth out p.2.toNat).testBit a = true := fun p hp a ha => by
  obtain ⟨h1, h2, h3, h4⟩ := hv p hp
  have e := hc p hp
  have e2 : nth (cst out p) p.2.toNat = nth out p.2.toNat := by rw [e]
  rw [cst, nth_set _ _ _ _ (by rw [hs.len]; omega)] at e2
  simp only [if_true] at e2
  rw [← e2]
  simp only [Nat.testBit_or, Bool.or_eq_true, testBit_pw, decide_eq_true_eq]
  rcases ha with rfl | ha
  ·exact .inr rfl
  ·exact .inl (.inr ha)
 refine ⟨hs, fun a b hab => ?_⟩
 induction hab with
 | one h =>
  obtain ⟨p, hp, e1, e2⟩ := h
  have := key p hp p.1.toNat (.inl rfl)
  rwa [e1, e2] at this
 | more _ h ih =>
  obtain ⟨p, hp, e1, e2⟩ := h
  have := key p hp _ (.inr (by rw [e1]; exact ih))
  rwa [e2] at this
theorem Clo.uniq {n be out out'} (hv : Val n be) (h : Clo n be out) (h' : Clo n be out') : out = out' := by
 apply List.ext_getElem (by rw [h.len, h'.len])
 intro b h1 h2
 rw [← nth_get h1, ← nth_get h2]
 apply Nat.eq_of_testBit_eq
 intro a
 rw [Bool.eq_iff_iff]
 rw [h.len] at h1
 exact ⟨fun e => h'.cmp a b (h.snd a b h1 e), fun e => h.cmp a b (h'.snd a b h1 e)⟩
theorem Snd.bound {n be out} (hs : Snd n be out) : tot out ≤ n * pw n := by
 have := tot_le out (pw n) fun i hi => hs.lt i (by rw [← hs.len]; exact hi)
 rwa [hs.len] at this
theorem clo_ex {n be} (hv : Val n be) : ∀ (k : Nat) (out : List Nat), Snd n be out → n * pw n - tot out < k → ∃ out', Clo n be out'
 | 0, out, _, h => by omega
 | k + 1, out, hs, h => by
  by_cases he : tot (pas out be) = tot out
  ·exact ⟨out, hs.clo hv he⟩
  ·have hp := hs.rnd hv be fun _ h => h
   have := hp.bound
   have := (pas_tot hv be out (fun _ h => h) hs).1
   exact clo_ex hv k (pas out be) hp (by omega)
noncomputable def cloOf (n : Nat) (be : List (Int × Int)) : List Nat := open Classical in if h : ∃ out, Clo n be out then h.choose else []
theorem clo_of {n be} (hv : Val n be) : Clo n be (cloOf n be) := by
 have h := clo_ex hv _ (List.replicate n 0) (Snd.zero n be) (Nat.lt_succ_self _)
 rw [cloOf, dif_pos h]
 exact h.choose_spec
theorem cloOf_eq {n be out} (hv : Val n be) (h : Clo n be out) : cloOf n be = out := (clo_of hv).uniq hv h
theorem cloOf_bit {n be} (hv : Val n be) (a b : Nat) (hb : b < n) : (nth (cloOf n be) b).testBit a = true ↔ Ch be a b :=
 ⟨(clo_of hv).snd a b hb, (clo_of hv).cmp a b⟩
end Go.Proofs.YtcdoglogglbemaaGreatDoor.K
set_option linter.unusedVariables false
set_option linter.unusedSimpArgs false
namespace Go.Proofs.YtcdoglogglbemaaGreatDoor.K
open Go Go.AM
theorem add_pw {s b : Nat} (h : s.testBit b = false) (j : Nat) : (s + pw b).testBit j = (s.testBit j || decide (b = j)) := by
 have e1 : s = 2 ^ (b + 1) * (s / 2 ^ (b + 1)) + s % 2 ^ (b + 1) := (Nat.div_add_mod _ _).symm
 have e2 : s % 2 ^ (b + 1) < 2 ^ (b + 1) := Nat.mod_lt _ (Nat.two_pow_pos _)
 have e3 : s % 2 ^ (b + 1) < 2 ^ b := by
  rw [Nat.testBit_eq_decide_div_mod_eq] at h
  simp at h
  have h1 : s % 2 ^ (b + 1) = s % 2 ^ b + 2 ^ b * (s / 2 ^ b % 2) := by rw [Nat.pow_succ, Nat.mod_mul]
  rw [h1, h, Nat.mul_zero, Nat.add_zero]
  exact Nat.mod_lt _ (Nat.two_pow_pos _)
 generalize s / 2 ^ (b + 1) = q at e1
 generalize s % 2 ^ (b + 1) = r at e1 e2 e3
 have hp : 2 ^ (b + 1) = 2 ^ b + 2 ^ b := by rw [Nat.pow_succ]; omega
 have e4 : s + pw b = 2 ^ (b + 1) * q + (2 ^ b * 1 + r) := by rw [e1, pw]; omega
 rw [e4, Nat.testBit_two_pow_mul_add _ (by omega), e1, Nat.testBit_two_pow_mul_add _ e2]
 by_cases hj : j < b + 1
 ·simp only [hj, if_true]
  rw [Nat.testBit_two_pow_mul_add _ e3]
  by_cases hj2 : j < b
  ·have : ¬ b = j := by omega
   simp [hj2, this]
  ·have : j = b := by omega
   subst this
   simp
 ·have : ¬ b = j := by omega
  simp [hj, this]
def setOf (p : Nat → Bool) : Nat → Nat
 | 0 => 0
 | k + 1 => if p k then setOf p k + pw k else setOf p k
theorem setOf_lt (p : Nat → Bool) : ∀ k, setOf p k < pw k
 | 0 => by simp [setOf, pw]
 | k + 1 => by
  have := setOf_lt p k
  have := pw_succ k
  simp only [setOf]
  split <;> omega
theorem setOf_bit (p : Nat → Bool) : ∀ k j, (setOf p k).testBit j = (decide (j < k) && p j)
 | 0, j => by simp [setOf]
 | k + 1, j => by
  have hb : (setOf p k).testBit k = false := Nat.testBit_lt_two_pow (setOf_lt p k)
  simp only [setOf]
  split
  ·rename_i hp
   rw [add_pw hb, setOf_bit p k j]
   by_cases hj : k = j
   ·subst hj; simp [hp]
   ·have : decide (j < k + 1) = decide (j < k) := by simp only [decide_eq_decide]; omega
    simp [hj, this]
  ·rename_i hp
   rw [setOf_bit p k j]
   by_cases hj : k = j
   ·subst hj; simp [hp]
   ·have : decide (j < k + 1) = decide (j < k) := by simp only [decide_eq_decide]; omega
    simp [this]
theorem setOf_of {p : Nat → Bool} {k x : Nat} (h : x < pw k) (hb : ∀ j, j < k → x.testBit j = p j) : x = setOf p k := by
 apply Nat.eq_of_testBit_eq
 intro j
 rw [setOf_bit]
 by_cases hj : j < k
 ·simp [hj, hb j hj]
 ·have : x < 2 ^ j := Nat.lt_of_lt_of_le h (pw_le (by omega))
  simp [hj, Nat.testBit_lt_two_pow this]
def pc (s : Nat) : Nat → Nat
 | 0 => 0
 | k + 1 => pc s k + if s.testBit k then 1 else 0
theorem pc_le (s : Nat) : ∀ k, pc s k ≤ k
 | 0 => by simp [pc]
 | k + 1 => by have := pc_le s k; simp only [pc]; split <;> omega
theorem pc_add {s b : Nat} (h : s.testBit b = false) : ∀ k, pc (s + pw b) k = pc s k + if b < k then 1 else 0
 | 0 => by simp [pc]
 | k + 1 => by
  simp only [pc, pc_add h k, add_pw h]
  by_cases hb : b = k
  ·subst hb; simp [h]
  ·have : (b < k + 1) = (b < k) := by simp only [eq_iff_iff]; omega
   simp only [hb, decide_false, Bool.or_false, this]
   omega
def rstp (fr s : Nat) (p : Int × Int) : Nat := if (p.1.toNat = fr ∨ s.testBit p.1.toNat = true) ∧ s.testBit p.2.toNat = false then s + pw p.2.toNat else s
def rpas (fr s : Nat) (l : List (Int × Int)) : Nat := l.foldl (rstp fr) s
def rrnd (fr : Nat) (be : List (Int × Int)) : Nat → Nat
 | 0 => 0
 | k + 1 => rpas fr (rrnd fr be k) be
def cls (fr s : Nat) (p : Int × Int) : Prop := (p.1.toNat = fr ∨ s.testBit p.1.toNat = true) → s.testBit p.2.toNat = true
structure RSnd (n fr : Nat) (be : List (Int × Int)) (s : Nat) : Prop where
 lt : s < pw n
 snd : ∀ j, s.testBit j = true → Ch be fr j
theorem RSnd.step {n fr be s p} (hv : Val n be) (hs : RSnd n fr be s) (hp : p ∈ be) : RSnd n fr be (rstp fr s p) := by
 obtain ⟨h1, h2, h3, h4⟩ := hv p hp
 unfold rstp
 split
 ·rename_i h
  obtain ⟨ha, hb⟩ := h
  have hbits : ∀ j, (s + pw p.2.toNat).testBit j = true → Ch be fr j := fun j hj => by
   rw [add_pw hb] at hj
   simp only [Bool.or_eq_true, decide_eq_true_eq] at hj
   rcases hj with hj | rfl
   ·exact hs.snd j hj
   ·have hE : Ed be p.1.toNat p.2.toNat := ⟨p, hp, by omega, by omega⟩
    rcases ha with ha | ha
    ·rw [← ha]; exact .one hE
    ·exact (hs.snd _ ha).more hE
  refine ⟨?_, hbits⟩
  apply Nat.lt_of_not_le
  intro hle
  obtain ⟨j, hj, hj2⟩ := Nat.exists_ge_and_testBit_of_ge_two_pow hle
  have := (hbits j hj2).lt hv
  omega
 ·exact hs
theorem RSnd.pas {n fr be} (hv : Val n be) : ∀ (l : List (Int × Int)) {s}, RSnd n fr be s → (∀ p ∈ l, p ∈ be) → RSnd n fr be (rpas fr s l)
 | [], s, hs, _ => hs
 | p :: l, s, hs, h => RSnd.pas hv l (hs.step hv (h p (by simp))) fun q hq => h q (by simp [hq])
theorem RSnd.rnd {n fr be} (hv : Val n be) : ∀ k, RSnd n fr be (rrnd fr be k)
 | 0 => ⟨pw_pos n, fun j h => by simp [rrnd] at h⟩
 | k + 1 => (RSnd.rnd hv k).pas hv be fun _ h => h
theorem rpas_prog {n fr : Nat} : ∀ (l : List (Int × Int)) (s : Nat), (∀ p ∈ l, p.2.toNat < n) → pc s n ≤ pc (rpas fr s l) n ∧ ((rpas fr s l = s ∧ ∀ p ∈ l, cls fr s p) ∨ pc s n + 1 ≤ pc (rpas fr s l) n)
 | [], s, _ => ⟨Nat.le_refl _, .inl ⟨rfl, fun p h => by simp at h⟩⟩
 | p :: l, s, h => by
  have ih := rpas_prog (n := n) (fr := fr) l (rstp fr s p) fun q hq => h q (by simp [hq])
  have hp := h p (by simp)
  have e : rpas fr s (p :: l) = rpas fr (rstp fr s p) l := rfl
  rw [e]
  by_cases hc : (p.1.toNat = fr ∨ s.testBit p.1.toNat = true) ∧ s.testBit p.2.toNat = false
  ·have e1 : rstp fr s p = s + pw p.2.toNat := by simp [rstp, hc]
   have e2 := pc_add hc.2 n
   rw [e1] at ih ⊢
   simp only [hp, if_true] at e2
   exact ⟨by omega, .inr (by omega)⟩
  ·have e1 : rstp fr s p = s := by simp [rstp, hc]
   rw [e1] at ih ⊢
   refine ⟨ih.1, ?_⟩
   rcases ih.2 with ⟨i1, i2⟩ | i1
   ·refine .inl ⟨i1, fun q hq => ?_⟩
    rcases List.mem_cons.1 hq with rfl | hq
    ·intro ha
     cases hb : s.testBit q.2.toNat with
     | true => rfl
     | false => exact absurd ⟨ha, hb⟩ hc
    ·exact i2 q hq
   ·exact .inr i1
theorem rpas_cls {fr : Nat} : ∀ (l : List (Int × Int)) (s : Nat), (∀ p ∈ l, cls fr s p) → rpas fr s l = s
 | [], s, _ => rfl
 | p :: l, s, h => by
  have e1 : rstp fr s p = s := by
   unfold rstp
   split
   ·rename_i hc
    have := h p (by simp) hc.1
    rw [hc.2] at this; cases this
   ·rfl
  show rpas fr (rstp fr s p) l = s
  rw [e1]
  exact rpas_cls l s fun q hq => h q (by simp [hq])
theorem rrnd_prog {n fr : Nat} {be : List (Int × Int)} (hv : Val n be) : ∀ k, (∀ p ∈ be, cls fr (rrnd fr be k) p) ∨ k ≤ pc (rrnd fr be k) n
 | 0 => .inr (Nat.zero_le _)
 | k + 1 => by
  rcases rrnd_prog (fr := fr) hv k with h | h
  ·left
   show ∀ p ∈ be, cls fr (rpas fr (rrnd fr be k) be) p
   rw [rpas_cls be _ h]; exact h
  ·obtain ⟨_, h2⟩ := rpas_prog (n := n) (fr := fr) be (rrnd fr be k) fun p hp => by have := hv p hp; omega
   rcases h2 with ⟨h2, h3⟩ | h2
   ·left
    show ∀ p ∈ be, cls fr (rpas fr (rrnd fr be k) be) p
    rw [h2]; exact h3
   ·right
    show k + 1 ≤ pc (rpas fr (rrnd fr be k) be) n
    omega
noncomputable def rch (n : Nat) (be : List (Int × Int)) (fr : Nat) : Nat := setOf (fun b => (nth (cloOf n be) b).testBit fr) n
theorem rch_lt (n be fr) : rch n be fr < pw n := setOf_lt _ _
theorem rch_bit (n be fr j) : (rch n be fr).testBit j = (decide (j < n) && (nth (cloOf n be) j).testBit fr) := setOf_bit _ _ _
theorem rrnd_rch {n fr : Nat} {be : List (Int × Int)} (hv : Val n be) : rrnd fr be (n + 1) = rch n be fr := by
 have hs := RSnd.rnd (fr := fr) hv (n + 1)
 have hcl : ∀ p ∈ be, cls fr (rrnd fr be (n + 1)) p := by
  rcases rrnd_prog (fr := fr) hv (n + 1) with h | h
  ·exact h
  ·have := pc_le (rrnd fr be (n + 1)) n
   omega
 refine setOf_of hs.lt fun j hj => ?_
 rw [Bool.eq_iff_iff, cloOf_bit hv fr j hj]
 refine ⟨hs.snd j, fun h => ?_⟩
 clear hj
 induction h with
 | one h =>
  obtain ⟨p, hp, e1, e2⟩ := h
  have := hcl p hp (.inl (by omega))
  rwa [e2, Int.toNat_natCast] at this
 | more _ h ih =>
  obtain ⟨p, hp, e1, e2⟩ := h
  have := hcl p hp (.inr (by rw [e1, Int.toNat_natCast]; exact ih))
  rwa [e2, Int.toNat_natCast] at this
end Go.Proofs.YtcdoglogglbemaaGreatDoor.K
