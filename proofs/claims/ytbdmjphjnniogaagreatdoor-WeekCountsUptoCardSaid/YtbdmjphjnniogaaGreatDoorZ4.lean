/- Declarations that the closing texts need, part 4: joined by tools/slim.py. -/
import Derived.Test.YtbdmjphjnniogaaGreatDoorZ3
set_option linter.unusedVariables false
set_option linter.unusedSimpArgs false
universe u
namespace Go.AM
open Go.RowKit
structure Tk {α:Sort u} (a:α):Type where
def ZE {α:Sort u} (a:α) (_:Tk a):α:=a
@[go_sem] theorem Zmw {α β:Type} {f:α->β} {t x} :ZE f t x=f x:=Eq.trans rfl rfl
@[go_sem ↓] theorem ZrA {α β:Type} {f:α->β->Prop} {t x y} :ZE f t x y=f x y:=Eq.trans rfl rfl
@[go_sem ↓] theorem Zqf {α β γ:Type} {f:α->β->γ->Prop} {t x y z} :ZE f t x y z=f x y z:=Eq.trans rfl rfl
def pst (x:Option V) (K:V->Prop):Prop:=match x with | some v=>K v | none=>False
def mst (x:Option (V×List Obj)) (K:V->List Obj->Prop):Prop:=match x with | some (v,H)=>K v H | none=>False
def bst (x:V) (K:Bool->Prop):Prop:=match x with | .p (.bool b)=>K b | _=>False
def hst (x:Option (List Obj)) (K:List Obj->Prop):Prop:=match x with | some H=>K H | none=>False
@[go_sem ↓, go_sem] theorem ZsV {v K} :pst (some v) K=K v:=Eq.trans rfl rfl
@[go_sem ↓, go_sem] theorem Zs7 {v H K} :mst (some (v,H)) K=K v H:=Eq.trans rfl rfl
@[go_sem ↓, go_sem] theorem Ztc {H K} :hst (some H) K=K H:=Eq.trans rfl rfl
@[congr] theorem Zoq {x x' K} (h:x=x'):pst x K=pst x' K:=by rw [h]
@[congr] theorem Zp1 {x x' K} (h:x=x'):mst x K=mst x' K:=by rw [h]
@[congr] theorem Zo7 {x x' K} (h:x=x'):hst x K=hst x' K:=by rw [h]
def idF (fr:List V):List V:=fr
@[go_sem] theorem Zxg {fr} :idF fr=fr:=Eq.trans rfl rfl
section code
variable {cuts : List Nat} {P : Program} {fr : List V} {H : List Obj} {Q : Exit -> List V -> List Obj -> Prop}
@[go_sem ↓] theorem ZpF : awp cuts P .skip fr H Q=Q .normal fr H:=Eq.trans rfl rfl
@[go_sem ↓] theorem ZkZ {id} {l:List Oper} :awp cuts P (.region id l.toArray false) fr H Q=YH P (l.map (·.dst)) l (idF fr) H (ZE (Q .normal) ⟨⟩):=by simp [awp,idF,ZE]
@[go_sem ↓] theorem Zlp {id ops} :awp cuts P (.region id ops true) fr H Q=AWP P (.region id (ZE ops ⟨⟩) true) fr H (ZE Q ⟨⟩):=by simp [awp,ZE]
@[go_sem ↓] theorem ZsX {x y} :awp [] P (.seq x y) fr H Q=awp [] P x fr H (VA (fun fr H=>awp [] P y fr H Q) Q):=by
 rw [awp];cases hid x<;>simp
def ZiF (b:Bool) (A B:Prop):Prop:=if b then A else B
def ZaU (cuts:List Nat):Option Nat->Bool
 | some i=>cuts.contains i
 | none=>false
@[go_sem ↓] theorem Zn1 {k x y} :awp (k::cuts) P (.seq x y) fr H Q=ZiF (ZaU (k::cuts) (hid x)) (ZE (AWP P (.seq (ZE x ⟨⟩) (ZE y ⟨⟩)) fr H (ZE Q ⟨⟩)) ⟨⟩) (ZE (awp (k::cuts) P x fr H (VA (fun fr H=>awp (k::cuts) P y fr H Q) Q)) ⟨⟩):=by
 rw [awp];cases hid x<;>simp [ZiF,ZaU,ZE]
@[go_sem ↓, go_sem] theorem Zna {A B:Prop} {t} :ZiF true (ZE A t) B=A:=by simp [ZiF,ZE]
@[go_sem ↓, go_sem] theorem ZlY {A B:Prop} {t} :ZiF false A (ZE B t)=B:=by simp [ZiF,ZE]
theorem Zdj {b b' A B} (h:b=b'):ZiF b A B=ZiF b' A B:=by rw [h]
@[go_sem ↓] theorem Zmh {id ops d} :hid (.region id ops d)=some id:=Eq.trans rfl rfl
@[go_sem ↓] theorem ZvQ {x y} :hid (.seq x y)=hid x:=Eq.trans rfl rfl
@[go_sem ↓] theorem ZoK {id c} :hid (.block id c)=hid c:=Eq.trans rfl rfl
@[go_sem ↓] theorem Zsr {c x y} :hid (.cond c x y)=none:=Eq.trans rfl rfl
@[go_sem] theorem ZlR : ZaU cuts none=false:=Eq.trans rfl rfl
@[go_sem] theorem Zop {i} :ZaU [] (some i)=false:=Eq.trans rfl rfl
@[go_sem] theorem Zl8 {k i} :ZaU (k::cuts) (some i)=(decide (i=k)||ZaU cuts (some i)):=by by_cases h:i=k<;>simp [ZaU,h]
@[go_sem ↓] theorem Zq1 {c x y} :awp cuts P (.cond c x y) fr H Q=Ws (ev fr c) (ZE (awp cuts P x fr H Q) ⟨⟩) (ZE (awp cuts P y fr H Q) ⟨⟩):=Eq.trans rfl rfl
@[go_sem ↓] theorem ZlV {id c} :awp cuts P (.block id c) fr H Q=awp cuts P c fr H (We id Q):=Eq.trans rfl rfl
@[go_sem ↓] theorem Zox {id} :awp cuts P (.exit id) fr H Q=Q (.exit id) fr H:=Eq.trans rfl rfl
@[go_sem ↓] theorem ZrW : awp cuts P .ret fr H Q=Q .ret fr H:=Eq.trans rfl rfl
@[go_sem ↓] theorem ZmY {c} :awp cuts P (.loop c) fr H Q=AWP P (.loop (ZE c ⟨⟩)) fr H (ZE Q ⟨⟩):=Eq.trans rfl rfl
@[go_sem ↓] theorem Zpd {c t} :awp cuts P (ZE c t) fr H Q=awp cuts P c fr H Q:=Eq.trans rfl rfl
theorem ZeY {c fr' H'} (h:fr=fr') (h2:H=H'):awp cuts P c fr H Q=awp cuts P c fr' H' Q:=by rw [h,h2]
theorem ZdL {c fr' H'} (h:fr=fr') (h2:H=H'):AWP P c fr H Q=AWP P c fr' H' Q:=by rw [h,h2]
@[go_sem ↓] theorem Zjn {A:List V->List Obj->Prop} :VA A Q .normal fr H=A fr H:=Eq.trans rfl rfl
@[go_sem ↓] theorem ZlT {A:List V->List Obj->Prop} {id} :VA A Q (.exit id) fr H=Q (.exit id) fr H:=Eq.trans rfl rfl
@[go_sem ↓] theorem ZnA {A:List V->List Obj->Prop} :VA A Q .ret fr H=Q .ret fr H:=Eq.trans rfl rfl
@[go_sem ↓] theorem ZgK {id} :We id Q .normal fr H=Q .normal fr H:=Eq.trans rfl rfl
@[go_sem ↓] theorem Zly {id} :We id Q .ret fr H=Q .ret fr H:=Eq.trans rfl rfl
@[go_sem ↓] theorem ZjP {id id'} :We id Q (.exit id') fr H=if id'=id then Q .normal fr H else Q (.exit id') fr H:=Eq.trans rfl rfl
theorem ZaY {A:List V->List Obj->Prop} {e fr' H'} (h:fr=fr') (h2:H=H'):VA A Q e fr H=VA A Q e fr' H':=by rw [h,h2]
theorem K3 {id e fr' H'} (h:fr=fr') (h2:H=H'):We id Q e fr H=We id Q e fr' H':=by rw [h,h2]
@[go_sem ↓] theorem ZrX {rs} {Q:V->List Obj->Prop} :Zaj P rs Q .ret fr H=mst ((Xz P fr H rs).map fun xs=>(YT xs,H)) (ZE Q ⟨⟩):=by
 simp only [Zaj,ZE];split<;>simp_all [mst]
theorem Zc8 {rs e fr' H'} {Q:V->List Obj->Prop} (h:fr=fr') (h2:H=H'):Zaj P rs Q e fr H=Zaj P rs Q e fr' H':=by rw [h,h2]
@[go_sem] theorem ZlK : Xz P fr H []=some []:=Eq.trans rfl rfl
@[go_sem] theorem ZlN {t l} :Xz P fr H (.tmp t::l)=(Xz P fr H l).map (gt fr t:: ·):=by
 simp only [Xz,Zlo];cases Xz P fr H l<;>rfl
@[go_sem] theorem ZjC {a t l} :Xz P fr H (.cell a t::l)=(Vq P H t (gt fr a)).bind fun x=>(Xz P fr H l).map (x:: ·):=by
 simp only [Xz,Zlo];cases Vq P H t (gt fr a)<;>cases Xz P fr H l<;>rfl
@[go_sem] theorem ZlU {x} :YT [x]=x:=Eq.trans rfl rfl
@[go_sem] theorem Zct {x y l} :YT (x::y::l)= .tup (x::y::l):=Eq.trans rfl rfl
end code
attribute [congr] Zdj ZeY ZdL ZaY K3 Zc8
@[go_sem] theorem Zwo {x:V} {l} :gt (x::l) 0=x:=Eq.trans rfl rfl
@[go_sem] theorem Zv5 {x:V} {l n} :gt (x::l) (n+1)=gt l n:=Eq.trans rfl rfl
@[go_sem] theorem ZyU {n} :gt [] n= .junk:=Eq.trans rfl rfl
@[go_sem] theorem ZuU {x v:V} {l} :pt (x::l) 0 v=v::l:=Eq.trans rfl rfl
@[go_sem] theorem Zwk {x v:V} {l n} :pt (x::l) (n+1) v=x::pt l n v:=Eq.trans rfl rfl
@[go_sem] theorem ZsD {fr d v} :ptO fr (some d) v=pt fr d v:=Eq.trans rfl rfl
@[go_sem] theorem Zsc {fr v} :ptO fr none v=fr:=Eq.trans rfl rfl
@[go_sem] theorem ZsU {x:Obj} {l} :oat (x::l) 0=x:=Eq.trans rfl rfl
@[go_sem] theorem ZtK {x:Obj} {l n} :oat (x::l) (n+1)=oat l n:=Eq.trans rfl rfl
@[go_sem] theorem Zt0 {x v:Obj} {l} :ost (x::l) 0 v=v::l:=Eq.trans rfl rfl
@[go_sem] theorem Zr0 {x v:Obj} {l n} :ost (x::l) (n+1) v=x::ost l n v:=Eq.trans rfl rfl
@[go_sem] theorem Zvn {fr t} :evx fr (.tmp t)=gt fr t:=Eq.trans rfl rfl
@[go_sem] theorem Zyb {fr t} :ev fr (.tmp t)=gt fr t:=Eq.trans rfl rfl
@[go_sem] theorem ZuF {fr f} :ev fr (.func f)= .fn (.func f) [] []:=Eq.trans rfl rfl
@[go_sem] theorem Zx4 {fr k n} :ev fr (.const (.int k n))= .p (.int k n):=Eq.trans rfl rfl
@[go_sem] theorem Zuq {fr b} :ev fr (.const (.bool b))= .p (.bool b):=Eq.trans rfl rfl
@[go_sem] theorem Zxf {fr s} :ev fr (.const (.string s))= .p (.str s.data.toList):=Eq.trans rfl rfl
@[go_sem] theorem ZvU {fr} :ev fr (.const (.slice none 0 0))= .p (.list true []):=Eq.trans rfl rfl
@[go_sem] theorem Zzm {fr l} :ev fr (.const (.agg (List.toArray l)))=match cvs l with | some xs=> .p (.agg xs) | none=> .junk:=Eq.trans rfl rfl
@[go_sem] theorem ZtN {fr d} {l:List (Option Nat)} :gAt fr (some d::l) 0=gt fr d:=by simp [gAt]
@[go_sem] theorem Zt5 {fr o n} {l:List (Option Nat)} :gAt fr (o::l) (n+1)=gAt fr l n:=by simp [gAt]
section ops
variable {P : Program} {fr : List V} {H : List Obj} {ds : List (Option Nat)} {K : List V -> List Obj -> Prop} {r : List Oper} {d : Option Nat} {t : TypeId} {ps : String} {af : Array Edge} {g : Option (Nat × Bool)} {k : V -> List Obj -> Prop}
theorem Zdi {l fr' H'} (h:fr=fr') (h2:H=H'):YH P ds l fr H K=YH P ds l fr' H' K:=by rw [h,h2]
theorem ZaN {o fr' H'} (h:fr=fr') (h2:H=H'):Zp P o fr H k=Zp P o fr' H' k:=by rw [h,h2]
@[go_sem ↓] theorem Zsd : YH P ds [] fr H K=K fr H:=Eq.trans rfl rfl
@[go_sem] theorem Zpp {op} :YH P ds (⟨d,op,t,ps,af,none⟩::r) fr H K=Zp P ⟨d,op,t,ps,af,none⟩ fr H (ZE (fun x H'=>YH P ds r (ptO fr d x) H' K) ⟨⟩):=Eq.trans rfl rfl
@[go_sem] theorem ZlJ {op j b} :YH P ds (⟨d,op,t,ps,af,some (j,b)⟩::r) fr H K=ZX (gAt fr ds j) b (ZE (Zp P ⟨d,op,t,ps,af,none⟩ fr H (ZE (fun x H'=>YH P ds r (ptO fr d x) H' K) ⟨⟩)) ⟨⟩) (ZE (YH P ds r (ptO fr d (.tup [])) H K) ⟨⟩):=by
 simp only [YH,ZE];unfold ZX
 split<;>rfl
theorem ZH {op:Op} (h:Xs op=none) (h2:Wg P op fr H=none):Zp P ⟨d,op,t,ps,af,g⟩ fr H k=pst (ZF P op fr H) fun x=>k x H:=by
 simp only [Zp,h,aop,h2]
 all_goals (cases ZF P op fr H<;>rfl)
theorem XI {op:Op} (h:Xs op=none) (h2:ZF P op fr H=none):Zp P ⟨d,op,t,ps,af,g⟩ fr H k=mst (Wg P op fr H) k:=by
 simp only [Zp,h,aop,h2,mst]
 all_goals (cases Wg P op fr H<;>rfl)
@[go_sem ↓] theorem ZlF {x} :Zp P ⟨d,.move x,t,ps,af,g⟩ fr H k=k (ev fr x) H:=by rw [ZH rfl rfl];rfl
@[go_sem ↓] theorem ZiR {x} :Zp P ⟨d,.assign x,t,ps,af,g⟩ fr H k=k (ev fr x) H:=by rw [ZH rfl rfl];rfl
def vif (b:Bool) (x y:V):V:=if b then x else y
@[go_sem] theorem ZtH {x y} :vif true x y=x:=Eq.trans rfl rfl
@[go_sem] theorem Zrf {x y} :vif false x y=y:=Eq.trans rfl rfl
@[go_sem] theorem ZrO {b x y} :vif b (.p (.bool x)) (.p (.bool y))= .p (.bool (if b then x else y)):=by cases b<;>rfl
@[go_sem] theorem ZtX {b} :asB (.p (.bool b))=some b:=Eq.trans rfl rfl
@[go_sem ↓] theorem Zlv {c x y} :Zp P ⟨d,.pick c x y,t,ps,af,g⟩ fr H k=pst ((asB (ev fr c)).map fun b=>vif b (ev fr x) (ev fr y)) (ZE (fun v=>k v H) ⟨⟩):=by
 rw [ZH rfl rfl];simp only [ZF,Xp]
 cases asB (ev fr c)<;>rfl
@[go_sem ↓] theorem Zlt {u x} :Zp P ⟨d,.load u x,t,ps,af,g⟩ fr H k=pst (Vq P H u (ev fr x)) (ZE (fun v=>k v H) ⟨⟩):=by rw [ZH rfl rfl];rfl
@[go_sem ↓] theorem Zqb {op u x y u2} :Zp P ⟨d,.binOp op u x y u2,t,ps,af,g⟩ fr H k=pst ((Yf P op u (ev fr x) (ev fr y)).map .p) (ZE (fun v=>k v H) ⟨⟩):=by rw [ZH rfl rfl];rfl
@[go_sem ↓] theorem Ztv {op u x} :Zp P ⟨d,.unOp op u x,t,ps,af,g⟩ fr H k=pst ((aun op (ev fr x)).map .p) (ZE (fun v=>k v H) ⟨⟩):=by rw [ZH rfl rfl];rfl
def Zkx (x y:Option PV):Option PV:=match x with | some z=>some z | none=>y
@[go_sem] theorem Zlx {z y} :Zkx (some z) y=some z:=Eq.trans rfl rfl
@[go_sem] theorem Zlr {y} :Zkx none y=y:=Eq.trans rfl rfl
@[go_sem ↓] theorem Zmd {s u x} :Zp P ⟨d,.convert s u x,t,ps,af,g⟩ fr H k=pst ((Zkx (QW P H s u (ev fr x)) (Zd0 P s u (ev fr x))).map .p) (ZE (fun v=>k v H) ⟨⟩):=by
 rw [ZH rfl rfl];simp only [ZF,Xp]
 cases QW P H s u (ev fr x)<;>rfl
@[go_sem ↓] theorem Zgo {f cs es} :Zp P ⟨d,.makeFunc f (List.toArray cs) (List.toArray es),t,ps,af,g⟩ fr H k=k (.fn f (cs.map (ev fr)) (es.map (ev fr))) H:=by rw [ZH rfl rfl];rfl
@[go_sem ↓] theorem Zk2 {u x lo hi mx} :Zp P ⟨d,.slice u x lo hi mx,t,ps,af,g⟩ fr H k=pst (YG P H u fr (ev fr x) lo hi mx) (ZE (fun v=>k v H) ⟨⟩):=by rw [ZH rfl rfl];rfl
@[go_sem ↓] theorem ZdS {s x f} :Zp P ⟨d,.fieldAddr s x f,t,ps,af,g⟩ fr H k=pst (Vo P H s f (ev fr x)) (ZE (fun v=>k v H) ⟨⟩):=by rw [ZH rfl rfl];rfl
@[go_sem ↓] theorem Zgb {u x i} :Zp P ⟨d,.indexAddr u x i,t,ps,af,g⟩ fr H k=pst (Ww P H u (evx fr x) (ev fr i)) (ZE (fun v=>k v H) ⟨⟩):=by rw [ZH rfl rfl];rfl
@[go_sem ↓] theorem ZkI {u x i} :Zp P ⟨d,.index u x i,t,ps,af,g⟩ fr H k=pst (ZeJ P u (ev fr x) (ev fr i)) (ZE (fun v=>k v H) ⟨⟩):=by rw [ZH rfl rfl];rfl
def axt (x:V) (i:Nat):Option V:=match x with | .tup vs=>vs[i]? | _=>none
@[go_sem] theorem ZwQ {vs i} :axt (.tup vs) i=vs[i]? :=Eq.trans rfl rfl
@[go_sem ↓] theorem ZhJ {x i} :Zp P ⟨d,.extract x i,t,ps,af,g⟩ fr H k=pst (axt (ev fr x) i) (ZE (fun v=>k v H) ⟨⟩):=by
 rw [ZH rfl rfl];simp only [ZF,Xp]
 cases ev fr x<;>rfl
@[go_sem ↓] theorem Zkm {u l} :Zp P ⟨d,.build u (List.toArray l),t,ps,af,g⟩ fr H k=pst (KQ P H u (l.map fun x=>(x.1,ev fr x.2))) (ZE (fun v=>k v H) ⟨⟩):=by rw [ZH rfl rfl];rfl
@[go_sem ↓] theorem Zpv {x u} :Zp P ⟨d,.call ⟨.builtin .len,#[x],#[u]⟩,t,ps,af,g⟩ fr H k=pst ((Znr P H u (ev fr x)).map .p) (ZE (fun v=>k v H) ⟨⟩):=by rw [ZH rfl rfl];rfl
@[go_sem ↓] theorem Zn8 {x y us} :Zp P ⟨d,.call ⟨.builtin .max,#[x,y],us⟩,t,ps,af,g⟩ fr H k=pst ((Zks false [ev fr x,ev fr y]).map .p) (ZE (fun v=>k v H) ⟨⟩):=by
 rw [ZH rfl rfl];simp only [ZF,Xp,Zbh];rfl
@[go_sem ↓] theorem Zlc {u} :Zp P ⟨d,.alloc u,t,ps,af,g⟩ fr H k=mst ((Z9 P u).map fun zs=>(.ptr H.length 0,H++ [.cells (zs.map .p)])) (ZE k ⟨⟩):=by rw [XI rfl rfl];rfl
@[go_sem ↓] theorem Zqi {u x} :Zp P ⟨d,.box u x,t,ps,af,g⟩ fr H k=mst ((vc H (ev fr x)).map fun cs=>(.ptr H.length 0,H++ [.cells cs])) (ZE k ⟨⟩):=by rw [XI rfl rfl];rfl
def Zwl (H:List Obj) (n:Option Nat) (a:V) (cs:Option (List V)):Option (List Obj):=n.bind fun n=>cs.bind fun cs=>V3 H n a cs
@[go_sem] theorem ZqN {n a cs} :Zwl H (some n) a (some cs)=V3 H n a cs:=Eq.trans rfl rfl
@[go_sem ↓] theorem Zkh {u x y} :Zp P ⟨d,.store u x y,t,ps,af,g⟩ fr H k=hst (Zwl H (tsz P u) (ev fr x) (vc H (ev fr y))) (ZE (k .junk) ⟨⟩):=by
 rw [XI rfl rfl];simp only [Wg,Zwl]
 cases tsz P u<;>cases vc H (ev fr y)<;>simp [hst,mst,ZE]
 cases V3 H _ (ev fr x) _<;>rfl
@[go_sem ↓] theorem Zdr {u n l} :Zp P ⟨d,.buildSlice u n (List.toArray l),t,ps,af,g⟩ fr H k=mst (Wg P (.buildSlice u n (List.toArray l)) fr H) (ZE k ⟨⟩):=by rw [XI rfl rfl];rfl
@[go_sem ↓] theorem Zg3 {u} :Zp P ⟨d,.makeMap u none,t,ps,af,g⟩ fr H k=k (.mp H.length) (H++ [.map []]):=by rw [XI rfl rfl];rfl
@[go_sem ↓] theorem ZiB {u x y ok} :Zp P ⟨d,.lookup u x y ok,t,ps,af,g⟩ fr H k=mst (Zcs P H u (ev fr x) (ev fr y) ok) (ZE k ⟨⟩):=by rw [XI rfl rfl];rfl
@[go_sem ↓] theorem ZlP {u x y z} :Zp P ⟨d,.mapUpdate u x y z,t,ps,af,g⟩ fr H k=mst (ZcY P H u (ev fr x) (ev fr y) (ev fr z)) (ZE k ⟨⟩):=by rw [XI rfl rfl];rfl
@[go_sem ↓] theorem ZeB {u x y} :Zp P ⟨d,.makeSlice u x y,t,ps,af,g⟩ fr H k=mst (Wg P (.makeSlice u x y) fr H) (ZE k ⟨⟩):=by rw [XI rfl rfl];rfl
@[go_sem ↓] theorem Zi5 {x y u u2} :Zp P ⟨d,.call ⟨.builtin .append,#[x,y],#[u,u2]⟩,t,ps,af,g⟩ fr H k=mst (Ql P H u u2 (ev fr x) (ev fr y)) (ZE k ⟨⟩):=by rw [XI rfl rfl];rfl
@[go_sem ↓] theorem Zl9 {f azs ts} :Zp P ⟨d,.call ⟨.value f,List.toArray azs,ts⟩,t,ps,af,g⟩ fr H k=Qv P (ev fr f) (azs.map (ev fr)) H (ZE k ⟨⟩):=Eq.trans rfl rfl
@[go_sem ↓] theorem Ztw {f fs cs azs} :Qv P (.fn (.func f) fs cs) azs H k=ACalls P f (fs++azs++cs) H k:=Eq.trans rfl rfl
@[go_sem ↓] theorem ZoI {f azs} :Qv P (.p (.fn f)) azs H k=ACalls P f azs H k:=Eq.trans rfl rfl
theorem Zan {f f' azs as'} (h:f=f') (h2:azs=as'):Qv P f azs H k=Qv P f' as' H k:=by rw [h,h2]
theorem Ks {f azs as' H'} (h2:azs=as') (h3:H=H'):ACalls P f azs H k=ACalls P f as' H' k:=by rw [h2,h3]
theorem Za0 {x x' A B} (h:x=x'):Ws x A B=Ws x' A B:=by rw [h]
theorem J1 {x x' b A B} (h:x=x'):ZX x b A B=ZX x' b A B:=by rw [h]
@[go_sem ↓, go_sem] theorem ZlB {A:Prop} {t B'} :Ws (.p (.bool true)) (ZE A t) B'=A:=by simp [Ws,ZE]
@[go_sem ↓, go_sem] theorem Zlf {B:Prop} {t B'} :Ws (.p (.bool false)) B' (ZE B t)=B:=by simp [Ws,ZE]
@[go_sem ↓, go_sem] theorem Zoe {A:Prop} {t B} :ZX (.p (.bool true)) true (ZE A t) B=A:=by simp [ZX,ZE]
@[go_sem ↓, go_sem] theorem ZmI {B:Prop} {t A} :ZX (.p (.bool true)) false A (ZE B t)=B:=by simp [ZX,ZE]
@[go_sem ↓, go_sem] theorem Zqu {B:Prop} {t A} :ZX (.p (.bool false)) true A (ZE B t)=B:=by simp [ZX,ZE]
@[go_sem ↓, go_sem] theorem ZnD {A:Prop} {t B} :ZX (.p (.bool false)) false (ZE A t) B=A:=by simp [ZX,ZE]
@[go_sem ↓, go_sem] theorem Zj3 {b} {B:Prop} {t A} :ZX (.tup []) b A (ZE B t)=B:=by simp [ZX,ZE]
theorem Xd {c:Bool} {A B:Prop} {t t'} (h1:c=true->A) (h2:c=false->B):Ws (.p (.bool c)) (ZE A t) (ZE B t'):=⟨h1,h2⟩
theorem ZU {c:Bool} {A B:Prop} {t t'} (h1:c=true->A) (h2:c=false->B):ZX (.p (.bool c)) true (ZE A t) (ZE B t'):=⟨h1,fun h=>h2 (by simpa using h)⟩
theorem ZS {c:Bool} {A B:Prop} {t t'} (h1:c=true->B) (h2:c=false->A):ZX (.p (.bool c)) false (ZE A t) (ZE B t'):=⟨h2,fun h=>h1 (by simpa using h)⟩
class Dc (c:Bool) (p q:outParam Prop):Prop where
 t:c=true->p
 f:c=false->q
instance dcD {p : Prop} [Decidable p] : Dc (decide p) p (¬p) := ⟨of_decide_eq_true, of_decide_eq_false⟩
instance (priority := low) dcB {c : Bool} : Dc c (c = true) (c = false) := ⟨id, id⟩
theorem cD {c:Bool} {A B p q:Prop} {t t'} [d:Dc c p q] (h1:p->A) (h2:q->B):Ws (.p (.bool c)) (ZE A t) (ZE B t'):=Xd (fun h=>h1 (d.t h)) (fun h=>h2 (d.f h))
theorem gT {c:Bool} {A B p q:Prop} {t t'} [d:Dc c p q] (h1:p->A) (h2:q->B):ZX (.p (.bool c)) true (ZE A t) (ZE B t'):=ZU (fun h=>h1 (d.t h)) (fun h=>h2 (d.f h))
theorem gF {c:Bool} {A B p q:Prop} {t t'} [d:Dc c p q] (h1:p->B) (h2:q->A):ZX (.p (.bool c)) false (ZE A t) (ZE B t'):=ZS (fun h=>h1 (d.t h)) (fun h=>h2 (d.f h))
@[go_sem] theorem Zuy {p:Prop} [Decidable p]:(!decide p)=decide (¬p):=by simp
end ops
attribute [congr] Zdi ZaN Zan Ks Za0 J1
section vals
variable {P : Program} {H : List Obj} {k : IntKind} {t u : TypeId}
@[go_sem] theorem Ztz {a b} :Yf P .add t (.p (.int k a)) (.p (.int k b))=some (.int k (k.wrap (a+b))):=by simp [Yf,Qr]
@[go_sem] theorem ZtM {a b} :Yf P .sub t (.p (.int k a)) (.p (.int k b))=some (.int k (k.wrap (a-b))):=by simp [Yf,Qr]
@[go_sem] theorem ZhA {a b} :Yf P .mul t (.p (.int k a)) (.p (.int k b))=some (.int k (k.wrap (a*b))):=by simp [Yf,Qr]
@[go_sem] theorem Zig {a b} (h:b≠0):Yf P .quo t (.p (.int k a)) (.p (.int k b))=some (.int k (k.wrap (a.tdiv b))):=by simp [Yf,Qr,h]
@[go_sem] theorem Zhu {a b} (h:b≠0):Yf P .rem t (.p (.int k a)) (.p (.int k b))=some (.int k (a.tmod b)):=by simp [Yf,Qr,h]
@[go_sem] theorem ZtZ {a b} :Yf P .and t (.p (.int k a)) (.p (.int k b))=some (.int k (k.wrap ((BitVec.ofInt k.bits a&&&BitVec.ofInt k.bits b).toNat:Int))):=by simp [Yf,Qr]
@[go_sem] theorem ZeI {a b} :Yf P .or t (.p (.int k a)) (.p (.int k b))=some (.int k (k.wrap ((BitVec.ofInt k.bits a|||BitVec.ofInt k.bits b).toNat:Int))):=by simp [Yf,Qr]
@[go_sem] theorem ZjR {a b} :Yf P .andNot t (.p (.int k a)) (.p (.int k b))=some (.int k (k.wrap ((BitVec.ofInt k.bits a&&& ~~~(BitVec.ofInt k.bits b)).toNat:Int))):=by simp [Yf,Qr]
@[go_sem] theorem ZsO {a b} :Yf P .eql t (.p (.int k a)) (.p (.int k b))=some (.bool (decide (a=b))):=by simp [Yf,Qr]
@[go_sem] theorem Ztr {a b} :Yf P .neq t (.p (.int k a)) (.p (.int k b))=some (.bool (decide (¬a=b))):=by simp [Yf,Qr]
@[go_sem] theorem Ztd {a b} :Yf P .lss t (.p (.int k a)) (.p (.int k b))=some (.bool (decide (a<b))):=by simp [Yf,Qr]
@[go_sem] theorem ZsC {a b} :Yf P .leq t (.p (.int k a)) (.p (.int k b))=some (.bool (decide (a<=b))):=by simp [Yf,Qr]
@[go_sem] theorem Zr7 {a b} :Yf P .gtr t (.p (.int k a)) (.p (.int k b))=some (.bool (decide (b<a))):=by simp [Yf,Qr]
@[go_sem] theorem ZtU {a b} :Yf P .geq t (.p (.int k a)) (.p (.int k b))=some (.bool (decide (b<=a))):=by simp [Yf,Qr]
@[go_sem] theorem Zg5 {a b k'} (h:0<=b):Yf P .shl t (.p (.int k a)) (.p (.int k' b))=some (.int k (k.wrap (a*2^(min b.toNat k.bits)))):=by simp [Yf,Qr,show ¬b<0 by omega]
@[go_sem] theorem Zhf {a b k'} (h:0<=b):Yf P .shr t (.p (.int k a)) (.p (.int k' b))=some (.int k (a.fdiv (2^(min b.toNat k.bits)))):=by simp [Yf,Qr,show ¬b<0 by omega]
@[go_sem] theorem Zt1 {op a b} :Yf P op t (.p (.str a)) (.p (.str b))=Zhv op a b:=Eq.trans rfl rfl
@[go_sem] theorem ZtS {a b} :Zhv .eql a b=some (.bool (decide (a=b))):=Eq.trans rfl rfl
@[go_sem] theorem Ztb {a b} :Zhv .neq a b=some (.bool (decide (¬a=b))):=by simp [Zhv]
@[go_sem] theorem ZhD {a b} (h:a.length+b.length<=9223372036854775807):Zhv .add a b=some (.str (a++b)):=by simp [Zhv,h]
def ZAM (op:BinOp) (u:Option TypeDesc) (a b:Bool):Option PV:=match op,u with
  | .eql,some .bool=>some (.bool (a==b))
  | .neq,some .bool=>some (.bool (!(a==b)))
  | _,_=>none
end vals
attribute [irreducible] pst mst hst bst
end Go.AM
namespace Go.AM
open Go.RowKit
section vals
variable {P : Program} {H : List Obj} {k : IntKind} {t u : TypeId}
def Zxj (g:Bool) (op:BinOp) (r:Option Bool):Option PV:=if g then none else match op with
 | .eql=>r.map .bool
 | .neq=>r.map fun r=> .bool (!r)
 | _=>none
@[go_sem] theorem ZtL {op a b} :Yf P op t (.p (.agg a)) (.p (.agg b))=Zxj (P.eqGuardType P.depth t) op (Ua P 9 t (.agg a) (.agg b)):=Eq.trans rfl rfl
@[go_sem] theorem ZrK {b} :Zxj false .eql (some b)=some (.bool b):=Eq.trans rfl rfl
def ZhT (P:Program) (d:Nat) (t:TypeId) (D:Option TypeDesc) (x y:PV):Option Bool:=match D,x,y with
  | some .bool,.bool a,.bool b=>some (a==b)
  | some (.int _),.int k a,.int k' b=>if k=k' then some (decide (a=b)) else none
  | some .string,.str a,.str b=>some (decide (a=b))
  | some (.struct fs),.agg a,.agg b=>if P.stoodInHeld t then none else Zbs (Ua P d) P fs.toList a b
  | some (.array n e),.agg a,.agg b=>match tsz P e with | some m=>Zlz (Ua P d e) P e m n 0 a b | none=>none
  | _,_,_=>none
@[go_sem] theorem ZnP {d x y} :Ua P (d+1) t x y=ZhT P d t (P.underlying t) x y:=Eq.trans rfl rfl
@[go_sem] theorem Zpn {d a b} :ZhT P d t (some .bool) (.bool a) (.bool b)=some (a==b):=Eq.trans rfl rfl
@[go_sem] theorem Zr8 {d k0 a b} :ZhT P d t (some (.int k0)) (.int k a) (.int k b)=some (decide (a=b)):=by simp [ZhT]
theorem WC {d fs a b} (h:P.stoodInHeld t=false):ZhT P d t (some (.struct fs)) (.agg a) (.agg b)=Zbs (Ua P d) P fs.toList a b:=by simp [ZhT,h]
def Zdm (x y:Option Bool):Option Bool:=x.bind fun p=>y.map fun q=>p&&q
@[go_sem] theorem Zmn {p q} :Zdm (some p) (some q)=some (p&&q):=Eq.trans rfl rfl
def eqP (f:PV->PV->Option Bool) (x y:Option PV):Option Bool:=x.bind fun x=>y.bind fun y=>f x y
@[go_sem] theorem Zsm {f x y} :eqP f (some x) (some y)=f x y:=Eq.trans rfl rfl
@[go_sem] theorem Jo {f a b} :Zbs f P [] a b=some true:=Eq.trans rfl rfl
@[go_sem] theorem U9 {f fi r a b} : Zbs f P (fi :: r) a b = if fi.name = "_" then Zbs f P r a b else Zdm (eqP (f fi.type) (apart P fi.type a fi.offset) (apart P fi.type b fi.offset)) (Zbs f P r a b) := by
 simp only [Zbs]
 split
 ·rfl
 ·cases apart P fi.type a fi.offset<;>cases apart P fi.type b fi.offset<;>simp [eqP,Zdm]
  rename_i x y
  cases f fi.type x y<;>cases Zbs f P r a b<;>rfl
def ZxU (g:Option Bool) (s:Option Nat) (cs:List PV) (off:Nat):Option PV:=match g,s with
 | some true,some n=>if off+n<=cs.length then some (.agg ((cs.drop off).take n)) else none
 | some false,_=>cs[off]?
 | _,_=>none
@[go_sem] theorem Zty {cs off} :apart P t cs off=ZxU (XM P t) (tsz P t) cs off:=Eq.trans rfl rfl
@[go_sem] theorem Zr2 {s cs off} :ZxU (some false) s cs off=cs[off]? :=Eq.trans rfl rfl
def Zcm (g:Option Bool) (s:Option Nat) (H:List Obj) (x:V):Option V:=match g,s with
 | some true,some n=>(YR H x n).map mkA
 | some false,_=>match YR H x 1 with
  | some (c::_)=>some c
  | _=>none
 | _,_=>none
def hdO (x:Option (List V)):Option V:=match x with | some (c::_)=>some c | _=>none
@[go_sem] theorem ZtB {c l} :hdO (some (c::l))=some c:=Eq.trans rfl rfl
@[go_sem] theorem ZtO {x} :Vq P H t x=Zcm (XM P t) (tsz P t) H x:=Eq.trans rfl rfl
@[go_sem] theorem Zl2 {s x} :Zcm (some false) s H x=hdO (YR H x 1):=by simp only [Zcm,hdO]
@[go_sem] theorem Zl4 {n x} :Zcm (some true) (some n) H x=(YR H x n).map mkA:=Eq.trans rfl rfl
@[go_sem] theorem ZpM {x j n} :YR H (.lp x j) n=if j+n<=x.cells.length then some (((x.cells.drop j).take n).map .p) else none:=Eq.trans rfl rfl
def Zjm (ob:Obj) (off n:Nat):Option (List V):=match ob with | .cells cs=>if off+n<=cs.length then some ((cs.drop off).take n) else none | _=>none
@[go_sem] theorem Zlw {o off n} :YR H (.ptr o off) n=Zjm (oat H o) off n:=Eq.trans rfl rfl
@[go_sem] theorem ZiJ {cs off n} :Zjm (.cells cs) off n=if off+n<=cs.length then some ((cs.drop off).take n) else none:=Eq.trans rfl rfl
def Zi6 (ob:Obj) (i j tot n:Nat):Option (List V):=match ob with
 | .elems _ xs=>if xs.length=tot/\i<xs.length/\j+n<=(elt xs i).cells.length then some ((((elt xs i).cells.drop j).take n).map .p) else none
 | _=>none
@[go_sem] theorem ZpI {o i j tot n} :YR H (.ep o i j tot) n=Zi6 (oat H o) i j tot n:=Eq.trans rfl rfl
@[go_sem] theorem ZiC {S xs i j tot n} :Zi6 (.elems S xs) i j tot n=if xs.length=tot/\i<xs.length/\j+n<=(elt xs i).cells.length then some ((((elt xs i).cells.drop j).take n).map .p) else none:=Eq.trans rfl rfl
@[go_sem] theorem Zmo {cs} :(PV.agg cs).cells=cs:=Eq.trans rfl rfl
@[go_sem] theorem ZmD {n} :(PV.int k n).cells= [.int k n]:=Eq.trans rfl rfl
@[go_sem] theorem Zma {b} :(PV.bool b).cells= [.bool b]:=Eq.trans rfl rfl
@[go_sem] theorem Zqx {s} :(PV.str s).cells= [.str s]:=Eq.trans rfl rfl
@[go_sem] theorem Zmc {c xs} :(PV.list c xs).cells= [.list c xs]:=Eq.trans rfl rfl
@[go_sem] theorem Zvc {n} :(PV.int k n).one=true:=Eq.trans rfl rfl
@[go_sem] theorem ZrS {b} :(PV.bool b).one=true:=Eq.trans rfl rfl
@[go_sem] theorem ZvK {s} :(PV.str s).one=true:=Eq.trans rfl rfl
@[go_sem] theorem Zsz {c xs} :(PV.list c xs).one=true:=Eq.trans rfl rfl
@[go_sem] theorem Zzb {cs} :mkA cs=match QJ cs with | some ps=> .p (.agg ps) | none=> .agg cs:=Eq.trans rfl rfl
@[go_sem] theorem Zs6 : QJ []=some []:=Eq.trans rfl rfl
@[go_sem] theorem ZpL {x r} :QJ (.p x::r)=(QJ r).map (x:: ·):=by simp only [QJ]
def Jq (n:Option Nat) (a:Bool) (x:V):Option V:=match n with | some n=>if a then some (Jl n x) else none | none=>none
@[go_sem] theorem Zrd {s f x} :Vo P H s f x=Jq (Xf P s f) (Yd H x) x:=Eq.trans rfl rfl
@[go_sem] theorem ZiV {n x} :Jq (some n) true x=some (Jl n x):=Eq.trans rfl rfl
@[go_sem] theorem Zss {n x j} :Jl n (.lp x j)= .lp x (j+n):=Eq.trans rfl rfl
@[go_sem] theorem ZqJ {n o off} :Jl n (.ptr o off)= .ptr o (off+n):=Eq.trans rfl rfl
@[go_sem] theorem Zr5 {n o i j tot} :Jl n (.ep o i j tot)= .ep o i (j+n) tot:=Eq.trans rfl rfl
def ZdG (ob:Obj):Bool:=match ob with | .cells _=>true | _=>false
@[go_sem] theorem Zib {cs} :ZdG (.cells cs)=true:=Eq.trans rfl rfl
def Zdx (ob:Obj) (tot:Nat):Bool:=match ob with | .elems _ xs=>decide (xs.length=tot) | _=>false
@[go_sem] theorem ZgI {S xs tot} :Zdx (.elems S xs) tot=decide (xs.length=tot):=Eq.trans rfl rfl
def ZqQ (ob:Obj) (tot:Nat):Bool:=match ob with | .elems _ xs=>decide (xs.length=tot) | .cells _=>true | _=>false
@[go_sem] theorem ZkX {S xs tot} :ZqQ (.elems S xs) tot=decide (xs.length=tot):=Eq.trans rfl rfl
@[go_sem] theorem ZrV {x j} :Yd H (.lp x j)=true:=Eq.trans rfl rfl
@[go_sem] theorem Zmb {o off} :Yd H (.ptr o off)=ZdG (oat H o):=Eq.trans rfl rfl
@[go_sem] theorem Ztm {o i j tot} :Yd H (.ep o i j tot)=Zdx (oat H o) tot:=Eq.trans rfl rfl
def WD (e:Option (Option Nat×Nat)) (H:List Obj) (x i:V):Option V:=match e,i with
 | some (none,S),.p (.int _ n)=>match x with
  | .p (.list _ xs)=>if 0<=n/\n<xs.length then (if (elt xs n.toNat).cells.length=S then some (.lp (elt xs n.toNat) 0) else none) else none
  | .sl o off len tot=>match oat H o with
   | .elems S' xs=>if xs.length=tot/\S'=S then (if 0<=n/\n<len then some (.ep o (off+n.toNat) 0 tot) else none) else none
   | .cells _=>if S=1/\off=0/\len=tot/\0<=n/\n<len then some (.ptr o n.toNat) else none
   | _=>none
  | _=>none
 | some (some k,S),.p (.int _ n)=>if 0<=n/\n<k then (if Yd H x then some (Jl (n.toNat*S) x) else none) else none
 | _,_=>none
@[go_sem] theorem Znt {x i} :Ww P H t x i=WD (YY P t) H x i:=Eq.trans rfl rfl
theorem KZ {S c xs n} (h0:0<=n) (h1:n<(List.length xs:Int)):WD (some (none,S)) H (.p (.list c xs)) (.p (.int k n))=if (elt xs n.toNat).cells.length=S then some (.lp (elt xs n.toNat) 0) else none:=by
 simp only [WD];rw [if_pos ⟨h0,h1⟩]
def nth {α:Type} [Inhabited α] (l:List α) (i:Nat):α:=l.getD i default
theorem Xx {α:Type} [Inhabited α] {f:α->PV} {l:List α} {i:Nat} (h:i<l.length):elt (l.map f) i=f (nth l i):=by
 simp [elt,nth,h]
theorem Ze {α:Type} [Inhabited α] {l:List α} {i:Nat} (h:i<l.length):nth l i=l[i]:=by simp [nth,h]
@[go_sem] theorem ZkC {α:Type} [Inhabited α] {f:α->PV} {l:List α} {S c n} (h0:0<=n) (h1:n<(l.length:Int)) :
  WD (some (none,S)) H (.p (.list c (l.map f))) (.p (.int k n))=if (f (nth l n.toNat)).cells.length=S then some (.lp (f (nth l n.toNat)) 0) else none:=by
 rw [KZ h0 (by simpa using h1),Xx (by omega)]
def ZfN (ob:Obj) (S o off len tot:Nat) (n:Int):Option V:=match ob with
 | .elems S' xs=>if xs.length=tot/\S'=S then (if 0<=n/\n<len then some (.ep o (off+n.toNat) 0 tot) else none) else none
 | .cells _=>if S=1/\off=0/\len=tot/\0<=n/\n<len then some (.ptr o n.toNat) else none
 | _=>none
@[go_sem] theorem Zmf {S o off len tot n} :WD (some (none,S)) H (.sl o off len tot) (.p (.int k n))=ZfN (oat H o) S o off len tot n:=Eq.trans rfl rfl
@[go_sem] theorem ZqD {S xs o off} {len tot:Nat} {n:Int} (h0:0<=n) (h1:n<(len:Int)) (ht:xs.length=tot):ZfN (.elems S xs) S o off len tot n=some (.ep o (off+n.toNat) 0 tot):=by
 simp only [ZfN];simp [ht,h0,h1]
@[go_sem] theorem Zk0 {n} {m S:Nat} {x} (h0:0<=n) (h1:n<(m:Int)):WD (some (some m,S)) H x (.p (.int k n))=Jq (some (n.toNat*S)) (Yd H x) x:=by
 simp only [WD,Jq];rw [if_pos ⟨h0,h1⟩]
def Zg1 (H:List Obj) (D:Option TypeDesc) (x:V):Option PV:=match D,x with
 | some (.slice _),.p (.list _ xs)=>some (.int .i64 xs.length)
 | some (.slice _),.sl o _ len tot=>match oat H o with
  | .elems _ xs=>if xs.length=tot then some (.int .i64 len) else none
  | _=>none
 | some .string,.p (.str s)=>some (.int .i64 s.length)
 | some (.array n _),_=>some (.int .i64 n)
 | _,_=>none
@[go_sem] theorem ZvX {x} :Znr P H t x=Zg1 H (P.underlying t) x:=Eq.trans rfl rfl
@[go_sem] theorem ZlZ {e c xs} :Zg1 H (some (.slice e)) (.p (.list c xs))=some (.int .i64 (List.length xs)):=Eq.trans rfl rfl
def Zyc (ob:Obj) (len tot:Nat):Option PV:=match ob with | .elems _ xs=>if xs.length=tot then some (.int .i64 len) else none | _=>none
@[go_sem] theorem ZtY {e o off len tot} :Zg1 H (some (.slice e)) (.sl o off len tot)=Zyc (oat H o) len tot:=Eq.trans rfl rfl
@[go_sem] theorem Zl5 {S xs len tot} :Zyc (.elems S xs) len tot=if xs.length=tot then some (.int .i64 len) else none:=Eq.trans rfl rfl
@[go_sem] theorem Zns {s} :Zg1 H (some .string) (.p (.str s))=some (.int .i64 (List.length s)):=Eq.trans rfl rfl
@[go_sem] theorem ZuM {b} :aun .not (.p (.bool b))=some (.bool (!b)):=Eq.trans rfl rfl
@[go_sem] theorem ZwN {n} :aun .neg (.p (.int k n))=some (.int k (k.wrap (0-n))):=Eq.trans rfl rfl
def ZiT (D E:Option TypeDesc) (x:V):Option PV:=match D,E,x with
 | some _,some (.int k),.p (.int _ n)=>some (.int k (k.wrap n))
 | some (.int _),some .string,.p (.int _ n)=>if 0<=n/\n<128 then some (.str [UInt8.ofNat n.toNat]) else none
 | some .string,some .string,.p (.str b)=>some (.str b)
 | _,_,_=>none
@[go_sem] theorem Zsn {s x} :Zd0 P s t x=ZiT (P.underlying s) (P.underlying t) x:=Eq.trans rfl rfl
@[go_sem] theorem Zl0 {D k' n} :ZiT (some D) (some (.int k)) (.p (.int k' n))=some (.int k (k.wrap n)):=by cases D<;>rfl
def ZaQ (E:Option TypeDesc) (H:List Obj) (x:V):Option PV:=match E,x with
  | some (.int .u8),.p (.list _ xs)=>(Xq xs).map .str
  | some (.int .u8),.sl o off len tot=>match oat H o with
   | .elems _ xs=>if xs.length=tot/\off+len<=tot then (Xq ((xs.take (off+len)).drop off)).map .str else none
   | _=>none
  | _,_=>none
def ZaI (P:Program) (H:List Obj) (D E:Option TypeDesc) (x:V):Option PV:=match D,E with
 | some (.slice e),some .string=>ZaQ (P.underlying e) H x
 | _,_=>none
@[go_sem] theorem Zmu {s x} :QW P H s t x=ZaI P H (P.underlying s) (P.underlying t) x:=Eq.trans rfl rfl
@[go_sem] theorem Zkq {E x} :ZaI P H (some (.int k)) E x=none:=Eq.trans rfl rfl
@[go_sem] theorem Zg2 {e x} :ZaI P H (some (.slice e)) (some .string) x=ZaQ (P.underlying e) H x:=Eq.trans rfl rfl
def Zjl (ob:Obj) (off len tot:Nat):Option PV:=match ob with | .elems _ xs=>if xs.length=tot/\off+len<=tot then (Xq ((xs.take (off+len)).drop off)).map .str else none | _=>none
@[go_sem] theorem ZlG {o off len tot} :ZaQ (some (.int .u8)) H (.sl o off len tot)=Zjl (oat H o) off len tot:=Eq.trans rfl rfl
@[go_sem] theorem Zit {S xs off len tot} :Zjl (.elems S xs) off len tot=if xs.length=tot/\off+len<=tot then (Xq ((xs.take (off+len)).drop off)).map .str else none:=Eq.trans rfl rfl
@[go_sem] theorem Zle : Xq []=some []:=Eq.trans rfl rfl
@[go_sem] theorem ZiD {n r} :Xq (.int .u8 n::r)=(Xq r).map (UInt8.ofNat n.toNat:: ·):=by simp [Xq]
@[go_sem] theorem Zus {a b:Int} (h:0<=a):a.tdiv b=a / b:=Int.tdiv_eq_ediv_of_nonneg h
@[go_sem] theorem Zwn {a b:Int} (h:0<=a):a.tmod b=a%b:=Int.tmod_eq_emod_of_nonneg h
@[go_sem] theorem Zzd {cs} :vc H (.p (.agg cs))=if cs.all (·.one)=true then some (cs.map .p) else none:=by simp only [vc]
@[go_sem] theorem Zxi {n} :vc H (.p (.int k n))=some [.p (.int k n)]:=Eq.trans rfl rfl
@[go_sem] theorem Zu5 {n} :vc H (.p (.bool n))=some [.p (.bool n)]:=Eq.trans rfl rfl
@[go_sem] theorem Zx1 {n} :vc H (.p (.str n))=some [.p (.str n)]:=Eq.trans rfl rfl
@[go_sem] theorem ZvP {c xs} :vc H (.p (.list c xs))=some [.p (.list c xs)]:=Eq.trans rfl rfl
@[go_sem] theorem ZzP {o off len tot} :vc H (.sl o off len tot)=if ZqQ (oat H o) tot=true then some [.sl o off len tot] else none:=Eq.trans rfl rfl
@[go_sem] theorem Zu6 {α:Type} {n} {cs:List α} :spl ([]:List α) n cs= []:=by cases cs<;>cases n<;>simp [spl]
@[go_sem] theorem Zs4 {α:Type} {x c:α} {l cs} :spl (x::l) 0 (c::cs)=c::spl l 0 cs:=by simp [spl]
@[go_sem] theorem Zrt {α:Type} {x:α} {l} :spl (x::l) 0 []=x::l:=by simp [spl]
@[go_sem] theorem Zsf {α:Type} {x:α} {l cs n} :spl (x::l) (n+1) cs=x::spl l n cs:=by simp [spl]
def ZiZ (H:List Obj) (o:Nat) (ob:Obj) (off n:Nat) (cs:List V):Option (List Obj):=match ob with
 | .cells old=>if off+n<=old.length then some (ost H o (.cells (spl old off cs))) else none
 | _=>none
@[go_sem] theorem ZlQ {n o off cs} :V3 H n (.ptr o off) cs=if cs.length=n then ZiZ H o (oat H o) off n cs else none:=Eq.trans rfl rfl
@[go_sem] theorem Zi1 {o old off n cs} :ZiZ H o (.cells old) off n cs=if off+n<=old.length then some (ost H o (.cells (spl old off cs))) else none:=Eq.trans rfl rfl
def Zem (H:List Obj) (o:Nat) (ob:Obj) (i j tot n:Nat) (ps:Option (List PV)):Option (List Obj):=match ob,ps with
 | .elems S xs,some ps=>if xs.length=tot/\i<xs.length/\j+n<=(elt xs i).cells.length/\ps.all (·.one)=true/\(elt xs i).cells.all (·.one)=true then
   some (ost H o (.elems S (xs.set i (mkE (elt xs i) (spl (elt xs i).cells j ps))))) else none
 | _,_=>none
@[go_sem] theorem ZoW {n o i j tot cs} :V3 H n (.ep o i j tot) cs=if cs.length=n then Zem H o (oat H o) i j tot n (QJ cs) else none:=Eq.trans rfl rfl
@[go_sem] theorem ZlM {α:Type} [Inhabited α] {f:α->PV} {l:List α} {o S i j tot n ps} (ht:l.length=tot) (hi:i<l.length):Zem H o (.elems S (l.map f)) i j tot n (some ps) =
  if j+n<=(f (nth l i)).cells.length/\ps.all (·.one)=true/\(f (nth l i)).cells.all (·.one)=true then
   some (ost H o (.elems S ((l.map f).set i (mkE (f (nth l i)) (spl (f (nth l i)).cells j ps))))) else none:=by
 simp only [Zem,Xx hi]
 have h1:(l.map f).length=tot:=by simpa using ht
 have h2:i<(l.map f).length:=by simpa using hi
 simp only [h1,h2,true_and];subst ht;simp [hi]
@[go_sem] theorem ZwH {a cs} :mkE (.agg a) cs= .agg cs:=Eq.trans rfl rfl
@[go_sem] theorem ZwE {n c l} :mkE (.int k n) (c::l)=c:=Eq.trans rfl rfl
@[go_sem] theorem ZsM {n c l} :mkE (.bool n) (c::l)=c:=Eq.trans rfl rfl
@[go_sem] theorem Zn9 {l} :KQ P H t l=match Z9 P t,tpl P t with
 | some zs,some pl=>(Qd H pl (zs.map .p) l).map mkA
 | _,_=>none:=Eq.trans rfl rfl
@[go_sem] theorem Zq8 {pl cs} :Qd H pl cs []=some cs:=by simp [Qd]
def ZiG (H:List Obj) (pl:Nat->Option (Nat×Nat)) (cs:List V) (r:List (Nat×V)) (q:Option (Nat×Nat)) (vs:Option (List V)):Option (List V):=match q,vs with
 | some (off,sz),some vs=>if vs.length=sz/\off+sz<=cs.length then Qd H pl (spl cs off vs) r else none
 | _,_=>none
@[go_sem] theorem Zmi {pl cs i v r} :Qd H pl cs ((i,v)::r)=ZiG H pl cs r (pl i) (vc H v):=Eq.trans rfl rfl
@[go_sem] theorem ZkB {pl cs off sz vs r} :ZiG H pl cs r (some (off,sz)) (some vs)=if vs.length=sz/\off+sz<=cs.length then Qd H pl (spl cs off vs) r else none:=Eq.trans rfl rfl
@[go_sem] theorem Zyy {l i} :plL l i=l[i]? :=Eq.trans rfl rfl
@[go_sem] theorem Zyd {n i} :plA n i=some (i*n,n):=Eq.trans rfl rfl
end vals
end Go.AM
namespace Go.AM
open Go.RowKit
section
variable {P : Program} {H : List Obj} {k : IntKind} {t u : TypeId} {fr : List V}
def Zj0 (S:Option Nat) (H:List Obj) (n:Nat) (l:List (Nat×V)):Option (V×List Obj):=match S with
 | some S=>if n=l.length/\n*S<=16777216/\0<S then (Qx H S 0 l).map fun xs=>(.sl H.length 0 n n,H++ [.elems S xs]) else none
 | none=>none
@[go_sem] theorem Zsi {n l} :Wg P (.buildSlice t n (List.toArray l)) fr H=Zj0 (JW P t) H n (l.map fun x=>(x.1,ev fr x.2)):=by
 simp only [Wg,JW,Zj0]
 cases P.underlying t with
 | none=>rfl
 | some D =>
  cases D<;>try rfl
  rename_i e;simp only []
  cases (P.info? e).bind (·.zero) with
  | none=>rfl
  | some z =>
   simp only [ZjD]
   cases YY P t with
   | none=>rfl
   | some q=>obtain ⟨a,b⟩:=q;cases a<;>rfl
@[go_sem] theorem Zme {S n l} :Zj0 (some S) H n l=if n=l.length/\n*S<=16777216/\0<S then (Qx H S 0 l).map fun xs=>(.sl H.length 0 n n,H++ [.elems S xs]) else none:=Eq.trans rfl rfl
@[go_sem] theorem Zs1 {S n} :Qx H S n []=some []:=by simp [Qx]
@[go_sem] theorem ZqO {S n i x r} :Qx H S n ((i,.p x)::r)=if i=n then if x.cells.length=S/\x.cells.all (·.one)=true then (Qx H S (n+1) r).map (x:: ·) else none else none:=by simp only [Qx,pvo]
@[go_sem] theorem ZvE {S n i f r} :Qx H S n ((i,.fn (.func f) [] [])::r)=if i=n then if 1=S then (Qx H S (n+1) r).map (.fn f:: ·) else none else none:=by simp [Qx,pvo,PV.cells,PV.one]
def Zdh (P:Program) (t:TypeId):Option (Nat×Nat):=match P.underlying t with
 | some (.slice e)=>match tsz P e,U3 P e,(P.info? e).map (·.bytes) with
  | some S,some z,some by'=>if 0<S/\z.cells.length=S/\z.cells.all (·.one)=true/\by'≠0 then some (S,by') else none
  | _,_,_=>none
 | _=>none
theorem ZbN {S by'} (h:Zdh P t=some (S,by')): ∃e z,P.underlying t=some (.slice e)/\tsz P e=some S/\U3 P e=some z/\(P.info? e).map (·.bytes)=some by'/\0<S/\z.cells.length=S/\z.cells.all (·.one)=true/\by'≠0:=by
 unfold Zdh at h
 split at h
 ·rename_i e hu
  split at h
  ·rename_i S' z b h1 h2 h3
   split at h
   ·rename_i hc;simp at h;obtain ⟨rfl,rfl⟩:=h;exact ⟨e,z,hu,h1,h2,h3,hc⟩
   ·cases h
  ·cases h
 ·cases h
def Wr (D:Option TypeDesc) (H:List Obj) (y:V):Option (List PV):=match D,y with
 | some (.slice _),.p (.list _ ys)=>some ys
 | some (.slice _),.sl o off len tot=>match oat H o with
  | .elems _ xs=>if xs.length=tot/\off+len<=tot then some ((xs.take (off+len)).drop off) else none
  | _=>none
 | some .string,.p (.str s)=>some (s.map fun b=> .int .u8 b.toNat)
 | _,_=>none
def Zmt (ob:Obj) (off len tot:Nat):Option (List PV):=match ob with | .elems _ xs=>if xs.length=tot/\off+len<=tot then some ((xs.take (off+len)).drop off) else none | _=>none
@[go_sem] theorem ZlC {e c ys} :Wr (some (.slice e)) H (.p (.list c ys))=some ys:=Eq.trans rfl rfl
@[go_sem] theorem Zs9 {e o off len tot} :Wr (some (.slice e)) H (.sl o off len tot)=Zmt (oat H o) off len tot:=Eq.trans rfl rfl
theorem Zcf {S xs n} (h:List.length xs=n):Zmt (.elems S xs) 0 n n=some xs:=by subst h;simp [Zmt]
def Zl3 (H:List Obj) (F:Option (Nat×Nat)) (ys:Option (List PV)):Option (V×List Obj):=match F,ys with
 | some (S,by'),some ys=>if okE S ys=true/\ys.length*by'<=140737488355328/\ys.length<=140737488355328 then some (.sl H.length 0 ys.length ys.length,H++ [.elems S ys]) else none
 | _,_=>none
def JU (H:List Obj) (F:Option (Nat×Nat)) (ob:Obj) (o n:Nat) (ys:Option (List PV)):Option (V×List Obj):=match F,ob,ys with
 | some (S,by'),.elems S' xs,some ys=>if S'=S/\xs.length=n/\okE S ys=true/\(n+ys.length)*by'<=140737488355328/\n+ys.length<=140737488355328 then
   some (.sl o 0 (n+ys.length) (n+ys.length),ost H o (.elems S (xs++ys))) else none
 | _,_,_=>none
theorem ZfL {z x y ys e S by'} (h1:P.underlying t=some (.slice e)) (h2:tsz P e=some S) (h3:U3 P e=some z) (h4:(P.info? e).map (·.bytes)=some by') (h5:Zgk P H u y=some ys) (h6:0<S/\z.cells.length=S/\z.cells.all (·.one)=true/\by'≠0) :
  Ql P H t u x y=if okE S ys=true then (match x with
    | .p (.list cl xs)=>if cl=true/\okE S xs=true/\(xs= []\/0<ys.length)/\(xs.length+ys.length)*by'<=140737488355328/\xs.length+ys.length<=140737488355328 then
      some (.sl H.length 0 (xs.length+ys.length) (xs.length+ys.length),H++ [.elems S (xs++ys)]) else none
    | .sl o off len tot=>match oat H o with
     | .elems S' xs=>if S'=S/\off=0/\len=tot/\xs.length=tot/\(tot+ys.length)*by'<=140737488355328/\tot+ys.length<=140737488355328 then
       some (.sl o 0 (tot+ys.length) (tot+ys.length),ost H o (.elems S (xs++ys))) else none
     | _=>none
    | _=>none) else none:=by
 simp only [Ql,h1,h2,h3,h4,h5]
 by_cases hc:okE S ys=true
 ·rw [if_pos hc,if_pos ⟨h6.1,h6.2.1,h6.2.2.1,h6.2.2.2,hc⟩]
  cases x with
  | p x=>cases x<;>rfl
  | _=>rfl
 ·rw [if_neg hc,if_neg (fun h=>hc h.2.2.2.2)]
theorem Zb6 {y F} (hF:Zdh P t=some F):Ql P H t u (.p (.list true [])) y=Zl3 H (some F) (Wr (P.underlying u) H y):=by
 obtain ⟨S,by'⟩:=F;obtain ⟨e,z,h1,h2,h3,h4,h6⟩:=ZbN hF;have e1:Wr (P.underlying u) H y=Zgk P H u y:=Eq.trans rfl rfl;rw [e1]
 cases h5:Zgk P H u y with
 | none=>simp [Ql,h1,h2,h3,h4,h5,Zl3]
 | some ys =>
  rw [ZfL h1 h2 h3 h4 h5 h6];simp only [Zl3,okE]
  by_cases hc:ys.all (ZrB S)=true
  ·simp [hc]
  ·simp [hc]
theorem Yn {y F o n} (hF:Zdh P t=some F):Ql P H t u (.sl o 0 n n) y=JU H (some F) (oat H o) o n (Wr (P.underlying u) H y):=by
 obtain ⟨S,by'⟩:=F;obtain ⟨e,z,h1,h2,h3,h4,h6⟩:=ZbN hF;have e1:Wr (P.underlying u) H y=Zgk P H u y:=Eq.trans rfl rfl;rw [e1]
 cases h5:Zgk P H u y with
 | none =>
  simp only [Ql,h1,h2,h3,h4,h5,JU]
  cases oat H o<;>rfl
 | some ys =>
  rw [ZfL h1 h2 h3 h4 h5 h6];simp only [JU]
  cases oat H o with
  | elems S' xs =>
   by_cases hc:okE S ys=true
   ·simp [hc]
   ·simp [hc]
  | cells cs=>simp
  | map es=>simp
  | bld T E r bs=>simp
  | dead=>simp
@[go_sem] theorem Zot {S b ys} :Zl3 H (some (S,b)) (some ys)=if okE S ys=true/\ys.length*b<=140737488355328/\ys.length<=140737488355328 then some (.sl H.length 0 ys.length ys.length,H++ [.elems S ys]) else none:=Eq.trans rfl rfl
theorem Km {S b xs ys o n} (hn:xs.length=n) (hb:(n+ys.length)*b<=140737488355328) (hb2:n+ys.length<=140737488355328):JU H (some (S,b)) (.elems S xs) o n (some ys)=if okE S ys=true then some (.sl o 0 (n+ys.length) (n+ys.length),ost H o (.elems S (xs++ys))) else none:=by
 simp only [JU]
 by_cases hc:okE S ys=true
 ·rw [if_pos ⟨trivial,hn,hc,hb,hb2⟩,if_pos hc]
 ·rw [if_neg (fun h=>hc h.2.2.1),if_neg hc]
@[go_sem] theorem Zsl {α:Type} {S} {f:α->PV} {l:List α} :Zmt (.elems S (l.map f)) 0 l.length l.length=some (l.map f):=Zcf (by simp)
@[go_sem] theorem Ztg {S x} :Zmt (.elems S [x]) 0 1 1=some [x]:=Zcf (by simp)
@[go_sem] theorem ZpH {α:Type} {S b o x} {f:α->PV} {l:List α} (hb:(l.length+1)*b<=140737488355328) (hb2:l.length+1<=140737488355328):JU H (some (S,b)) (.elems S (l.map f)) o l.length (some [x])=if okE S [x]=true then some (.sl o 0 (l.length+1) (l.length+1),ost H o (.elems S (l.map f++ [x]))) else none :=
 Km (by simp) (by simpa using hb) (by simpa using hb2)
@[go_sem] theorem Zmv {α β:Type} {S b o} {f:α->PV} {g:β->PV} {l:List α} {m:List β} (hb:(l.length+m.length)*b<=140737488355328) (hb2:l.length+m.length<=140737488355328):JU H (some (S,b)) (.elems S (l.map f)) o l.length (some (m.map g))=if okE S (m.map g)=true then some (.sl o 0 (l.length+m.length) (l.length+m.length),ost H o (.elems S (l.map f++m.map g))) else none:=by
 have:= @Km H S b (l.map f) (m.map g) o l.length (by simp) (by simpa using hb) (by simpa using hb2);simpa using this
@[go_sem] theorem ZwC {S} :okE S []=true:=Eq.trans rfl rfl
@[go_sem] theorem ZtD {S x l} :okE S (x::l)=((x.cells.length==S)&&x.cells.all (·.one)&&okE S l):=by simp [okE,ZrB]
theorem Q5 {α:Type} {S} {f:α->PV} {l:List α} (h: ∀x,ZrB S (f x)=true):okE S (l.map f)=true:=by simp [okE];intro x _;exact h x
def Zhm (P:Program) (t:TypeId):Option (Nat×Nat×PV):=match P.underlying t with
  | some (.slice e)=>match tsz P e,U3 P e,(P.info? e).map (·.bytes) with
   | some S,some z,some by'=>if z.cells.all (·.one)=true/\z.cells.length=S/\0<S then some (S,by',z) else none
   | _,_,_=>none
  | _=>none
end
def Yg : Nat->List Nat->List V->List V
 | _,_,[]=> []
 | i,[],_::l=> .junk::Yg (i+1) [] l
 | i,k::ks,x::l=>if i=k then x::Yg (i+1) ks l else .junk::Yg (i+1) (k::ks) l
def Zah : List (Nat×V)->List V->List V
 | [],fr=>fr
 | (i,v)::r,fr=>Zah r (pt fr i v)
@[go_sem] theorem Zq5 {i ks} :Yg i ks []= []:=by cases ks<;>simp [Yg]
@[go_sem] theorem ZlH {i x l} :Yg i [] (x::l)= .junk::Yg (i+1) [] l:=by simp [Yg]
@[go_sem] theorem Zlu {i k ks x l} :Yg i (k::ks) (x::l)=if i=k then x::Yg (i+1) ks l else .junk::Yg (i+1) (k::ks) l:=by simp [Yg]
@[go_sem] theorem ZAf : ((0:Nat):Int)=0:=Eq.trans rfl rfl
@[go_sem] theorem Zz5 {n:Nat} :((n+1:Nat):Int)=(n:Int)+1:=Eq.trans rfl rfl
@[go_sem] theorem Zx7 {n:Nat} :((n:Int)).toNat=n:=Eq.trans rfl rfl
@[go_sem] theorem Ztt {fr} :Zah [] fr=fr:=by simp [Zah]
@[go_sem] theorem ZoF {i v r fr} :Zah ((i,v)::r) fr=Zah r (pt fr i v):=by simp [Zah]
@[go_sem] theorem ZwI {p q:Prop} [Decidable p] [Decidable q]:(decide p&&decide q)=decide (p/\q):=by simp
@[go_sem] theorem Zq2 {p q:Prop} [Decidable p] [Decidable q]:(decide p||decide q)=decide (p\/q):=by simp
theorem Zf {P c fr H Q} {I:Type} (ks:List Nat) (sets:I->List (Nat×V)) (hs:I->List Obj) (R:I->Prop) (μ:I->Nat) (i0:I) (hR:R i0) (h0:Weak H.length fr H (Zah (sets i0) (Yg 0 ks fr)) (hs i0))
  (round: ∀i,R i->awp [] P c (Zah (sets i) (Yg 0 ks fr)) (hs i) (VA (fun fr' H'=> ∃i',R i'/\μ i'<μ i/\Weak H.length fr' H' (Zah (sets i') (Yg 0 ks fr)) (hs i')) Q)):AWP P (.loop c) fr H Q :=
 ZbF R (fun i=>Zah (sets i) (Yg 0 ks fr)) hs μ i0 hR h0 fun i hi=>Zc [] _ _ _ _ (round i hi)
theorem ZA {P c fr H Q} (cuts:List Nat) {I:Type} (ks:List Nat) (sets:I->List (Nat×V)) (hs:I->List Obj) (R:I->Prop) (μ:I->Nat) (i0:I) (hR:R i0) (h0:Weak H.length fr H (Zah (sets i0) (Yg 0 ks fr)) (hs i0))
  (round: ∀i,R i->awp cuts P c (Zah (sets i) (Yg 0 ks fr)) (hs i) (VA (fun fr' H'=> ∃i',R i'/\μ i'<μ i/\Weak H.length fr' H' (Zah (sets i') (Yg 0 ks fr)) (hs i')) Q)):AWP P (.loop c) fr H Q :=
 ZbF R (fun i=>Zah (sets i) (Yg 0 ks fr)) hs μ i0 hR h0 fun i hi=>Zc cuts _ _ _ _ (round i hi)
theorem Zo {P x y fr H Q} {I:Type} (ks:List Nat) (sets:I->List (Nat×V)) (hs:I->List Obj) (R:I->Prop)
  (h:awp [] P x fr H (VA (fun fr' H'=> ∃i,R i/\Weak H.length fr' H' (Zah (sets i) (Yg 0 ks fr)) (hs i)) Q)) (k: ∀i,R i->AWP P y (Zah (sets i) (Yg 0 ks fr)) (hs i) Q):AWP P (.seq x y) fr H Q :=
 fun F ι a w hr hf=>by
 refine wp_seq (wp_mono (Zc [] _ _ _ _ h F ι a w hr hf) ?_);rintro e a' w' ⟨fr',H',ι',q,g,f⟩
 cases e with
 | normal =>
  obtain ⟨i,hi,hw⟩:=q;obtain ⟨ι2,r2,f2,g2⟩:=hw F ι' a' w' g.rel f;refine wp_mono (k i hi F ι2 a' w' r2 f2) ?_;rintro e2 a2 w2 ⟨fr2,H2,ι3,q2,g3,f3⟩;exact ⟨fr2,H2,ι3,q2,(g2 H ι w (Nat.le_refl _) g).trans g3,f3⟩
 | exit id=>exact ⟨fr',H',ι',q,g,f⟩
 | goto l=>exact ⟨fr',H',ι',q,g,f⟩
 | ret=>exact ⟨fr',H',ι',q,g,f⟩
 | panic ch=>exact ⟨fr',H',ι',q,g,f⟩
 | outgrown=>exact ⟨fr',H',ι',q,g,f⟩
@[go_sem] theorem Zr1 {H n x} :wkV H n x .junk=True:=by simp [wkV]
@[go_sem] theorem ZxC {H n} {x y:PV} :wkV H n (.p x) (.p y)=(y=x):=by simp [wkV,refB,frz]
@[go_sem] theorem Zu2 {H n o off len tot o' off' len' tot'} :wkV H n (.sl o off len tot) (.sl o' off' len' tot')=((o'=o/\off'=off/\len'=len/\tot'=tot)/\o<n):=by simp [wkV,refB]
@[go_sem] theorem ZsL {H n o off o' off'} :wkV H n (.ptr o off) (.ptr o' off')=((o'=o/\off'=off)/\o<n):=by simp [wkV,refB]
@[go_sem] theorem Zwr {H n} :wkF H n [] []=True:=by simp [wkF]
@[go_sem] theorem Zs8 {H n x l x' l'} :wkF H n (x::l) (x'::l')=(wkV H n x x'/\wkF H n l l'):=by simp [wkF]
@[go_sem] theorem Zv3 {H n l} :wkH H n l []=True:=by simp [wkH]
@[go_sem] theorem Zse {H n x l x' l'} :wkH H n (x::l) (x'::l')=(wkO H n x x'/\wkH H n l l'):=by simp [wkH]
@[go_sem] theorem ZoO {H n cs cs'} :wkO H n (.cells cs) (.cells cs')=wkF H n cs cs':=by simp [wkO]
@[go_sem] theorem ZpG {H n S S' xs xs'} :wkO H n (.elems S xs) (.elems S' xs')=(S=S'/\xs=xs'):=by simp [wkO]
@[go_sem] theorem Zvp {H n es es2} :wkO H n (.map es) (.map es2)=(es=es2):=by simp [wkO]
@[go_sem] theorem Zya {H n o o2} :wkV H n (.mp o) (.mp o2)=(o2=o/\o<n):=by simp [wkV,refB,frz]
@[go_sem] theorem Zsh {H n} :wkO H n .dead .dead=True:=by simp [wkO]
theorem Weak.mk {n0 fr H fr' H'} (h:n0<=H'.length/\H'.length<=H.length/\wkF H H'.length fr fr'/\wkH H H'.length H H'):Weak n0 fr H fr' H':=Weak.of h.1 h.2.2.1 h.2.2.2 h.2.1
theorem wk {n0 fr H fr' H'} (h:n0<=H'.length/\H'.length<=H.length/\wkF H H'.length fr fr'/\wkH H H'.length H H':=by simp (disch:=omega) only [go_sem,seval]):Weak n0 fr H fr' H':=Weak.mk h
theorem we {n0 x H' a b} (h:n0<=List.length b/\List.length b<=H'.length/\wkF H' (List.length b) [x] [a]/\wkH H' (List.length b) H' b:=by simp (disch:=omega) only [go_sem,seval]): ∃y H'',Weak n0 [x] H' [y] H''/\y=a/\H''=b:=⟨_,_,Weak.mk h,rfl,rfl⟩
attribute [go_sem] List.length_cons List.length_nil List.cons_append List.nil_append List.append_nil List.map_cons List.map_nil List.drop_zero List.drop_succ_cons List.drop_nil List.take_succ_cons List.take_zero List.take_nil List.all_cons List.all_nil
 Nat.zero_add Nat.add_zero and_self true_and and_true Option.map_some Option.bind_some List.getElem?_cons_zero List.getElem?_cons_succ Bool.and_true Bool.true_and Bool.and_self List.length_map if_true if_false decide_true decide_false IntWalk.i64_in IntWalk.i32_in IntWalk.u8_in IntWalk.u64_in IntWalk.u32_in
 beq_self_eq_true List.replicate_succ List.replicate_zero Bool.or_true Bool.true_or Bool.or_false Bool.false_or Bool.not_true Bool.not_false
end Go.AM
namespace Go.AM
open Go.RowKit
theorem RP.weaker {X X':Nat->Prop} {w x v} (h:RP X w x v) (hx: ∀b,X' b->X b):RP X' w x v:=h.ext (w':=w) fun _ hb hs=>⟨fun h=>hb (hx _ h),hs,rfl⟩
theorem Good.forget {F w H' ι' w'} (he:Env F [] w) (hf: ∀b,F b->b<w.heap.size) (g:Good F [] [] w H' ι' w'):Good F [] [] w [] [] w' :=
 .up he ⟨⟨rfl,fun b hb=>by have:=hf b hb;have:=g.size;omega,fun i j b hi=>by simp at hi,fun i b hi=>by simp at hi,fun o cs ho=>by simp at ho,fun o S xs ho=>by simp at ho,fun o es ho=>by simp at ho,fun o T E r bs ho=>by simp at ho⟩,
  g.os,g.tape,g.output,fun b c t h=>(g.shape b c t h).imp (fun h=>absurd h.1 (by simp)) id,g.size,g.keep,fun _ _ h=>h,fun o ob ho=>by simp at ho⟩
theorem ACalls.pure {P g args} {y:PV} (h:ACalls P g args [] fun x _=>x= .p y):ACalls P g args [] fun x H'=>x= .p y/\H'= []:=by
 refine ⟨h.1,fun F ι w vs hr hv=> ?_⟩;have hι:ι= []:=List.eq_nil_of_length_eq_zero hr.len;subst hι;refine (h.2 F [] w vs hr hv).mono ?_;rintro e w' ⟨x,H',ι',v,rfl,rfl,gd,rv⟩
 cases rv with | p _ _ rp =>
 exact ⟨_,[],[],v,rfl,⟨rfl,rfl⟩,gd.forget hr.env hr.fin,.p _ _ (rp.weaker fun b hb=> .inl (by rcases hb with hb | hb;exact hb;simp at hb))⟩
theorem QG {F:Nat->Prop} {w w':World} {H':List Obj} {ι':List (Option Nat)} {v:Value} {o S n:Nat} {xs:List PV} (hF: ∀b,F b->b<w.heap.size) (hn:xs.length=n) (ho:oat H' o= .elems S xs)
  (gd:Good F [] [] w H' ι' w') (rv:RV F H' ι' w' (.sl o 0 n n) v): ∃ι2,Good F [] [] w [.elems S xs] ι2 w'/\RV F [.elems S xs] ι2 w' (.sl 0 0 n n) v:=by
 have hH:=ZB ho (by simp);have hlt:=(List.getElem?_eq_some_iff.1 hH).1
 have hlt':o<ι'.length:=by rw [gd.rel.len];exact hlt
 have hι':ι'[o]? =some (ι'[o]):=by simp [hlt']
 have hget: ∀ {i:Nat} {q:Option Nat},[ι'[o]][i]? =some q->i=0/\ι'[o]? =some q:=fun {i q} h=>by
  cases i with
  | zero=>simp at h;subst h;exact ⟨rfl,hι'⟩
  | succ i=>simp at h
 have hown: ∀b,Own F [ι'[o]] b->Own F ι' b:=fun b hb=>by
  rcases hb with hb | hb
  ·exact .inl hb
  ·simp at hb;right;rw [hb];simp
 refine ⟨[ι'[o]],⟨⟨⟨rfl,fun b hb=> ?_,fun i j b hi hj=> ?_,fun i b hi=> ?_,fun o' cs ho'=> ?_,fun o' S' xs' ho'=> ?_,fun o' es ho'=>by cases o'<;>simp at ho',fun o' T E r bs ho'=>by cases o'<;>simp at ho'⟩,gd.rel.env.le hown⟩,gd.os,gd.tape,gd.output,fun b c t h=>(gd.shape b c t h).imp (fun h=>absurd h.1 (by simp)) id,gd.size,gd.keep,fun b hb _ h=> ?_,fun o ob ho=>by simp at ho⟩,?_⟩
 ·have:=hF b hb;have:=gd.size;omega
 ·rw [(hget hi).1,(hget hj).1]
 ·exact gd.rel.avo o b (hget hi).2
 ·cases o' with
  | zero=>simp at ho'
  | succ i=>simp at ho'
 ·cases o' with
  | zero =>
   simp at ho';obtain ⟨rfl,rfl⟩:=ho';rcases gd.rel.elm o _ _ hH with ⟨e1,e2⟩ | ⟨b,c,t,cap,e1,e2,e3,e4,e5,e6,e7⟩
   ·exact .inl ⟨by rw [hι'] at e1;simpa using e1,e2⟩
   ·exact .inr ⟨b,c,t,cap,by rw [hι'] at e1;simpa using e1,e2,e3,e4,e5,e6,fun i x j y hi hj=>(e7 i x j y hi hj).weaker hown⟩
  | succ i=>simp at ho'
 ·simp at h;exact gd.own b hb (by simp) (by rw [h];simp)
 ·cases rv with
  | slNil _ S2 a h1 h2 =>
   rw [hH] at h2;simp at h2;obtain ⟨rfl,rfl⟩:=h2;exact .slNil 0 S a (by rw [hι'] at h1;simpa using h1) rfl
  | sl _ _ _ _ b S2 cap t xs2 c h1 h2 ht hw hcap hl hlen hm =>
   rw [hH] at h2;simp at h2;obtain ⟨rfl,rfl⟩:=h2;exact .sl 0 0 n n b S cap t xs c (by rw [hι'] at h1;simpa using h1) rfl hn hw hcap hl hlen hm
  | slD _ _ _ _ _ h1=>rw [hH] at h1;cases h1
  | slS _ _ _ _ _ S2 xs2 h1 hne=>rw [hH] at h1;simp at h1;obtain ⟨_,rfl⟩:=h1;omega
  | slC _ _ _ _ _ _ hd=>rw [hH] at hd;cases hd
theorem ACalls.fresh {P g args} {S n:Nat} {xs:List PV} (hn:xs.length=n) (h:ACalls P g args [] fun x H'=> ∃o,x= .sl o 0 n n/\oat H' o= .elems S xs):ACalls P g args [] fun x H'=>x= .sl 0 0 n n/\H'= [.elems S xs]:=by
 refine ⟨h.1,fun F ι w vs hr hv=> ?_⟩;have hι:ι= []:=List.eq_nil_of_length_eq_zero hr.len;subst hι;refine (h.2 F [] w vs hr hv).mono ?_;rintro e w' ⟨x,H',ι',v,rfl,⟨o,rfl,ho⟩,gd,rv⟩;obtain ⟨ι2,g2,r2⟩:=QG hr.fin hn ho gd rv;exact ⟨_,_,ι2,v,rfl,⟨rfl,rfl⟩,g2,r2⟩
theorem ACalls.freshE {P g args} {α:Type} {S:Nat} {f:α->PV} {R:List α->Prop} (h:ACalls P g args [] fun x H'=> ∃l:List α,R l/\ ∃o,x= .sl o 0 l.length l.length/\oat H' o= .elems S (l.map f)) :
  ACalls P g args [] fun x H'=> ∃l:List α,R l/\x= .sl 0 0 l.length l.length/\H'= [.elems S (l.map f)]:=by
 refine ⟨h.1,fun F ι w vs hr hv=> ?_⟩;have hι:ι= []:=List.eq_nil_of_length_eq_zero hr.len;subst hι;refine (h.2 F [] w vs hr hv).mono ?_;rintro e w' ⟨x,H',ι',v,rfl,⟨l,hl,o,rfl,ho⟩,gd,rv⟩;obtain ⟨ι2,g2,r2⟩:=QG hr.fin (by simp) ho gd rv;exact ⟨_,_,ι2,v,rfl,⟨l,hl,rfl,rfl⟩,g2,r2⟩
theorem ACalls.frozen {P g args} {S n:Nat} {xs:List PV} (hn:xs.length=n) (h:ACalls P g args [] fun x H'=>x= .sl 0 0 n n/\H'= [.elems S xs]):ACalls P g args [] fun x H'=>x= .p (.list false xs)/\H'= []:=by
 refine ⟨h.1,fun F ι w vs hr hv=> ?_⟩;have hι:ι= []:=List.eq_nil_of_length_eq_zero hr.len;subst hι;refine (h.2 F [] w vs hr hv).mono ?_;rintro e w' ⟨x,H',ι',v,rfl,⟨rfl,rfl⟩,gd,rv⟩;have hk:Keeps (Own F ι') w' (Own F []) w':=fun b hb hs=>⟨fun h=>hb (.inl (by rcases h with h | h;exact h;simp at h)),hs,rfl⟩
 have:=UQ (S:=S) (xs:=xs) (off:=0) (len:=n) (tot:=n) (Own F []) (fun b hb h=>by
  rcases h with h | h
  ·exact (gd.rel.avo 0 b hb).1 h
  ·simp at h) hk gd.rel rfl hn (by omega) rv
 rw [Nat.zero_add,List.drop_zero,List.take_of_length_le (by omega)] at this;exact ⟨_,[],[],v,rfl,⟨rfl,rfl⟩,gd.forget hr.env hr.fin,.p _ _ this⟩
theorem ACalls.frozenE {P g args} {α:Type} {S:Nat} {f:α->PV} {R:List α->Prop} (h:ACalls P g args [] fun x H'=> ∃l:List α,R l/\x= .sl 0 0 l.length l.length/\H'= [.elems S (l.map f)]) :
  ACalls P g args [] fun x H'=> ∃l:List α,R l/\x= .p (.list false (l.map f))/\H'= []:=by
 refine ⟨h.1,fun F ι w vs hr hv=> ?_⟩;have hι:ι= []:=List.eq_nil_of_length_eq_zero hr.len;subst hι;refine (h.2 F [] w vs hr hv).mono ?_;rintro e w' ⟨x,H',ι',v,rfl,⟨l,hl,rfl,rfl⟩,gd,rv⟩;have hk:Keeps (Own F ι') w' (Own F []) w':=fun b hb hs=>⟨fun h=>hb (.inl (by rcases h with h | h;exact h;simp at h)),hs,rfl⟩
 have:=UQ (S:=S) (xs:=l.map f) (off:=0) (len:=l.length) (tot:=l.length) (Own F []) (fun b hb h=>by
  rcases h with h | h
  ·exact (gd.rel.avo 0 b hb).1 h
  ·simp at h) hk gd.rel rfl (by simp) (by omega) rv
 rw [Nat.zero_add,List.drop_zero,List.take_of_length_le (by simp)] at this;exact ⟨_,[],[],v,rfl,⟨l,hl,rfl,rfl⟩,gd.forget hr.env hr.fin,.p _ _ this⟩
theorem ACalls.useV {P g args} {α:Type} {f:α->PV} {R:α->Prop} {H:List Obj} {K:V->List Obj->Prop} (h:ACalls P g args [] fun x H'=> ∃a:α,R a/\x= .p (f a)/\H'= []) (k: ∀a,R a->K (.p (f a)) H) (ha:ZT 0 args=true:=by rfl):ACalls P g args H K:=by
 refine (h.behind ha H).mono ?_;rintro x H' ⟨y',H1,⟨a,ra,rfl,rfl⟩,rfl,rfl⟩;simpa [shV] using k a ra
theorem ACalls.useE {P g args} {α:Type} {S:Nat} {f:α->PV} {R:List α->Prop} {H:List Obj} {K:V->List Obj->Prop} (h:ACalls P g args [] fun x H'=> ∃l:List α,R l/\x= .sl 0 0 l.length l.length/\H'= [.elems S (l.map f)])
  (k: ∀l,R l->K (.sl H.length 0 l.length l.length) (H++ [.elems S (l.map f)])) (ha:ZT 0 args=true:=by rfl):ACalls P g args H K:=by
 refine (h.behind ha H).mono ?_;rintro x H' ⟨y',H1,⟨l,rl,rfl,rfl⟩,rfl,rfl⟩;simpa [shV,shO] using k l rl
theorem ACalls.use {P g args} {y:PV} {H:List Obj} {K:V->List Obj->Prop} (h:ACalls P g args [] fun x H'=>x= .p y/\H'= []) (k:K (.p y) H) (ha:ZT 0 args=true:=by rfl):ACalls P g args H K:=by
 refine (h.behind ha H).mono ?_;rintro x H' ⟨y',H1,⟨rfl,rfl⟩,rfl,rfl⟩;simpa [shV] using k
theorem ACalls.useF {P g args} {S n:Nat} {xs:List PV} {H:List Obj} {K:V->List Obj->Prop} (h:ACalls P g args [] fun x H'=>x= .sl 0 0 n n/\H'= [.elems S xs]) (k:K (.sl H.length 0 n n) (H++ [.elems S xs])) (ha:ZT 0 args=true:=by rfl):ACalls P g args H K:=by
 refine (h.behind ha H).mono ?_;rintro x H' ⟨y',H1,⟨rfl,rfl⟩,rfl,rfl⟩;simpa [shV,shO] using k
theorem Zb {P:Program} {g:FuncId} {fn:Func} {c:Code} {args:List V} {y:PV} (hf:P.funcs[g]? =some fn) (hb:fn.body=some c) (hg:Zi P g)
  (h:awp [] P c (args++List.replicate (fn.ntmps-args.length) .junk) [] (Zaj P fn.results.toList fun x _=>x= .p y)):ACalls P g args [] fun x H'=>x= .p y/\H'= [] :=
 (Xa hf hb hg (Zc [] _ _ _ _ h)).pure
theorem J9 (cuts:List Nat) {P:Program} {g:FuncId} {fn:Func} {c:Code} {args:List V} {y:PV} (hf:P.funcs[g]? =some fn) (hb:fn.body=some c) (hg:Zi P g)
  (h:awp cuts P c (args++List.replicate (fn.ntmps-args.length) .junk) [] (Zaj P fn.results.toList fun x _=>x= .p y)):ACalls P g args [] fun x H'=>x= .p y/\H'= [] :=
 (Xa hf hb hg (Zc cuts _ _ _ _ h)).pure
theorem VT {P:Program} {g:FuncId} {fn:Func} {c:Code} {args:List V} {S n:Nat} {xs:List PV} (hn:xs.length=n) (hf:P.funcs[g]? =some fn) (hb:fn.body=some c) (hg:Zi P g)
  (h:awp [] P c (args++List.replicate (fn.ntmps-args.length) .junk) [] (Zaj P fn.results.toList fun x H'=> ∃o,x= .sl o 0 n n/\oat H' o= .elems S xs)):ACalls P g args [] fun x H'=>x= .sl 0 0 n n/\H'= [.elems S xs] :=
 (Xa hf hb hg (Zc [] _ _ _ _ h)).fresh hn
theorem Q6 (cuts:List Nat) {P:Program} {g:FuncId} {fn:Func} {c:Code} {args:List V} {S n:Nat} {xs:List PV} (hn:xs.length=n) (hf:P.funcs[g]? =some fn) (hb:fn.body=some c) (hg:Zi P g)
  (h:awp cuts P c (args++List.replicate (fn.ntmps-args.length) .junk) [] (Zaj P fn.results.toList fun x H'=> ∃o,x= .sl o 0 n n/\oat H' o= .elems S xs)):ACalls P g args [] fun x H'=>x= .sl 0 0 n n/\H'= [.elems S xs] :=
 (Xa hf hb hg (Zc cuts _ _ _ _ h)).fresh hn
theorem ZD (cuts:List Nat) {P:Program} {g:FuncId} {fn:Func} {c:Code} {args:List V} {α:Type} {S:Nat} {f:α->PV} {R:List α->Prop} (hf:P.funcs[g]? =some fn) (hb:fn.body=some c) (hg:Zi P g)
  (h:awp cuts P c (args++List.replicate (fn.ntmps-args.length) .junk) [] (Zaj P fn.results.toList fun x H'=> ∃l:List α,R l/\ ∃o,x= .sl o 0 l.length l.length/\oat H' o= .elems S (l.map f))):ACalls P g args [] fun x H'=> ∃l:List α,R l/\x= .sl 0 0 l.length l.length/\H'= [.elems S (l.map f)] :=
 (Xa hf hb hg (Zc cuts _ _ _ _ h)).freshE
theorem Weak.ofNil {n0 fr H fr' H'} (t S:Nat) (h:gt fr t= .p (.list true [])) (hn:n0<=H.length) (k:Weak n0 (pt fr t (.sl H.length 0 0 0)) (H++ [.elems S []]) fr' H'):Weak n0 fr H fr' H' :=
 (Weak.nil t S h hn).trans k
end Go.AM
namespace Go.AM
open Go.RowKit
section
variable {P : Program} {H : List Obj} {t : TypeId} {fr : List V}
def Zed (e:Option (Option Nat×Nat)) (c:Bool) (xs:List PV) (lo hi:V):Option V:=match e,lo,hi with
 | some (none,S),.p (.int _ a),.p (.int _ b)=>if Zdt S xs=true/\0<=a/\a<=b/\b<=xs.length then some (.p (.list (c&&decide (b=xs.length)) ((xs.take b.toNat).drop a.toNat))) else none
 | _,_,_=>none
def V.isInt : V->Option Int
 | .p (.int _ n)=>some n
 | _=>none
theorem V.isInt_some {x:V} {n} (h:x.isInt=some n): ∃k,x= .p (.int k n):=by
 unfold V.isInt at h;split at h
 ·rename_i k m;simp at h;exact ⟨k,by rw [h]⟩
 ·cases h
theorem W7 {d:Int} {x:Operand} :abd d fr (some x)=(ev fr x).isInt:=rfl
theorem U7 {c xs k k' a b} :(VG P t c xs a b none).map .p=Zed (YY P t) c xs (.p (.int k a)) (.p (.int k' b)):=by
 simp only [VG,Zed]
 cases YY P t with
 | none=>rfl
 | some q =>
  obtain ⟨e,S⟩:=q
  cases e with
  | some n=>rfl
  | none=>simp only [];split<;>rfl
theorem ZdV {e c xs lo hi} (h:lo.isInt=none):Zed e c xs lo hi=none:=by
 unfold Zed;split
 ·simp [V.isInt] at h
 ·rfl
theorem Zdw {e c xs lo hi} (h:hi.isInt=none):Zed e c xs lo hi=none:=by
 unfold Zed;split
 ·simp [V.isInt] at h
 ·rfl
@[go_sem] theorem Zq6 {c xs hi} :YG P H t fr (.p (.list c xs)) none (some hi) none=Zed (YY P t) c xs (.p (.int .i64 0)) (ev fr hi):=by
 simp only [YG,W7]
 cases h:(ev fr hi).isInt with
 | none=>simp [abd,Zdw h]
 | some n=>obtain ⟨k,e⟩:=V.isInt_some h;rw [e,<- U7];rfl
@[go_sem] theorem ZpW {c xs lo} :YG P H t fr (.p (.list c xs)) (some lo) none none=Zed (YY P t) c xs (ev fr lo) (.p (.int .i64 (List.length xs))):=by
 simp only [YG,W7]
 cases h:(ev fr lo).isInt with
 | none=>simp [ZdV h]
 | some n=>obtain ⟨k,e⟩:=V.isInt_some h;rw [e,<- U7];rfl
@[go_sem] theorem Zj8 {c xs lo hi} :YG P H t fr (.p (.list c xs)) (some lo) (some hi) none=Zed (YY P t) c xs (ev fr lo) (ev fr hi):=by
 simp only [YG,W7]
 cases h:(ev fr lo).isInt with
 | none=>simp [ZdV h]
 | some n =>
  cases h2:(ev fr hi).isInt with
  | none=>simp [Zdw h2]
  | some m=>obtain ⟨k,e⟩:=V.isInt_some h;obtain ⟨k2,e2⟩:=V.isInt_some h2;rw [e,e2,<- U7]
@[go_sem] theorem Zsa {α:Type} {f:α->PV} {l:List α} {S c k k' a b} (h0:0<=a) (h1:a<=b) (h2:b<=(l.length:Int)) :
  Zed (some (none,S)) c (l.map f) (.p (.int k a)) (.p (.int k' b))=if Zdt S (l.map f)=true then some (.p (.list (c&&decide (b=l.length)) (((l.take b.toNat).drop a.toNat).map f))) else none:=by
 simp only [Zed,List.length_map]
 by_cases h:Zdt S (l.map f)=true
 ·rw [if_pos ⟨h,h0,h1,h2⟩,if_pos h];simp
 ·rw [if_neg (fun q=>h q.1),if_neg h]
end
def ZkD (P:Program) (d:Option TypeDesc) (x i:V):Option V :=
 match d,x,i with
 | some .string,.p (.str s),.p (.int _ n)=>if 0<=n then (s[n.toNat]?).map fun b=> .p (.int .u8 b.toNat) else none
 | some (.array k e),.p (.agg cs),.p (.int _ n)=>if 0<=n/\n<k then (match tsz P e with | some m=>(apart P e cs (n.toNat*m)).map .p | none=>none) else none
 | _,_,_=>none
@[go_sem] theorem Zv4 {P:Program} {t:TypeId} {x i:V} :ZeJ P t x i=ZkD P (P.underlying t) x i:=Eq.trans rfl rfl
@[go_sem] theorem Zn2 {P:Program} {s:List UInt8} {k n} (h0:0<=n) (h1:n<(s.length:Int)):ZkD P (some .string) (.p (.str s)) (.p (.int k n))=some (.p (.int .u8 ((nth s n.toNat).toNat:Nat))):=by
 have h:n.toNat<s.length:=by omega
 simp [ZkD,h0,h,Ze h]
def Zhn (d:Option TypeDesc) (s:List UInt8) (lo hi:V):Option V:=match d,lo,hi with
 | some .string,.p (.int _ a),.p (.int _ b)=>if 0<=a/\a<=b/\b<=s.length then some (.p (.str ((s.take b.toNat).drop a.toNat))) else none
 | _,_,_=>none
theorem Zju {d s lo hi} (h:lo.isInt=none):Zhn d s lo hi=none:=by
 unfold Zhn;split
 ·simp [V.isInt] at h
 ·rfl
theorem ZjK {d s lo hi} (h:hi.isInt=none):Zhn d s lo hi=none:=by
 unfold Zhn;split
 ·simp [V.isInt] at h
 ·rfl
section
variable {P : Program} {H : List Obj} {t : TypeId} {fr : List V}
theorem ZdF {s:List UInt8} {k k' a b} :(match P.underlying t with | some .string=>(if 0<=a/\a<=b/\b<=(s.length:Int) then some (V.p (.str ((s.take b.toNat).drop a.toNat))) else none) | _=>none)=Zhn (P.underlying t) s (.p (.int k a)) (.p (.int k' b)):=by
 simp only [Zhn]
 cases P.underlying t with
 | none=>rfl
 | some d=>cases d<;>rfl
@[go_sem] theorem Ziu {s lo hi} :YG P H t fr (.p (.str s)) (some lo) (some hi) none=Zhn (P.underlying t) s (ev fr lo) (ev fr hi):=by
 simp only [YG,W7]
 cases h:(ev fr lo).isInt with
 | none=>rw [Zju h];simp
 | some n =>
  cases h2:(ev fr hi).isInt with
  | none=>rw [ZjK h2];simp
  | some m =>
   obtain ⟨k,e⟩:=V.isInt_some h;obtain ⟨k2,e2⟩:=V.isInt_some h2;rw [e,e2,<- ZdF]
   cases P.underlying t with
   | none=>rfl
   | some d=>cases d<;>rfl
end
@[go_sem low] theorem Zg7 {H:List Obj} {S b xs ys o n} :JU H (some (S,b)) (.elems S xs) o n (some ys)=if xs.length=n/\okE S ys=true/\(n+ys.length)*b<=140737488355328/\n+ys.length<=140737488355328 then some (.sl o 0 (n+ys.length) (n+ys.length),ost H o (.elems S (xs++ys))) else none:=by simp [JU]
@[go_sem] theorem Zwv {H:List Obj} {n f a b f' a' b'} :wkV H n (.fn f a b) (.fn f' a' b')=((f'=f/\a'=a/\b'=b)/\refB n (.fn f a b)=true):=by simp [wkV,frz]
@[go_sem] theorem Zws {n f a b} :refB n (.fn f a b)=(ZT n a&&ZT n b):=by simp [refB]
@[go_sem] theorem ZxI {n x} :refB n (.p x)=true:=by simp [refB]
@[go_sem] theorem ZsW {n o off} :refB n (.ptr o off)=decide (o<n):=by simp [refB]
@[go_sem] theorem Zoh {n} :ZT n []=true:=by simp [ZT]
@[go_sem] theorem Zl6 {n x l} :ZT n (x::l)=(refB n x&&ZT n l):=by simp [ZT]
theorem ACalls.useH {P g args H} {v:V} {H2:List Obj} {K:V->List Obj->Prop} (h:ACalls P g args H fun x H'=>x=v/\H'=H2) (k:K v H2):ACalls P g args H K :=
 h.mono (by rintro _ _ ⟨rfl,rfl⟩;exact k)
theorem Ug {α:Type} {f:α->PV} {S:Nat} (h: ∀x,(f x).cells.length=S) (l:List α):Zdt S (l.map f)=true:=by
 cases l with
 | nil=>rfl
 | cons x l=>simp [Zdt,h]
def Wy (F:Option (Nat×Nat×PV)) (H:List Obj) (x y:V):Option (V×List Obj):=match F,x,y with
 | some (S,by',z),.p (.int .i64 n),.p (.int .i64 m)=>if n=m/\0<=n/\(by':Int)*n<=281474976710656/\n<=281474976710656 then some (.sl H.length 0 n.toNat n.toNat,H++ [.elems S (List.replicate n.toNat z)]) else none
 | _,_,_=>none
theorem QN {P:Program} {t:TypeId} {fr:List V} {H:List Obj} {x y:Operand} {F} (h:Zhm P t=some F):Wg P (.makeSlice t x y) fr H=Wy (some F) H (ev fr x) (ev fr y):=by
 unfold Zhm at h
 split at h
 ·rename_i e hu
  split at h
  ·rename_i S' z' b h1 h2 h3
   split at h
   ·rename_i hc;simp at h;subst h
    have h3':(P.info? e).map (fun x=>(x.bytes:Int))=some (b:Int):=by
     cases hi:P.info? e with
     | none=>simp [hi] at h3
     | some i=>simp [hi] at h3 ⊢;rw [h3]
    simp only [Wg,hu,h2,hc.1,if_true,Zg8,h1,h3'];generalize ev fr x=X;generalize ev fr y=Y
    by_cases hX: ∃n,X= .p (.int .i64 n)
    ·obtain ⟨n,rfl⟩:=hX
     by_cases hY: ∃m,Y= .p (.int .i64 m)
     ·obtain ⟨m,rfl⟩:=hY;simp [Wy,hc.2]
     ·have e1:Wy (some (S',b,z')) H (.p (.int .i64 n)) Y=none:=by
       unfold Wy;split
       ·rename_i hm;exact absurd ⟨_,rfl⟩ hY
       ·rfl
      rw [e1];split
      ·exact absurd ⟨_,rfl⟩ hY
      ·rfl
    ·have e1:Wy (some (S',b,z')) H X Y=none:=by
      unfold Wy;split
      ·exact absurd ⟨_,rfl⟩ hX
      ·rfl
     rw [e1];split
     ·exact absurd ⟨_,rfl⟩ hX
     ·rfl
   ·cases h
  ·cases h
 ·cases h
@[go_sem] theorem Znu {H:List Obj} {S b:Nat} {z n} (h0:0<=n) (h1:(b:Int)*n<=281474976710656) (h2:n<=281474976710656):Wy (some (S,b,z)) H (.p (.int .i64 n)) (.p (.int .i64 n))=some (.sl H.length 0 n.toNat n.toNat,H++ [.elems S (List.replicate n.toNat z)]):=by
 simp only [Wy];rw [if_pos ⟨trivial,h0,h1,h2⟩]
theorem ZoD (x y:Nat) (hx:x<9223372036854775808) (hy:y<9223372036854775808):IntKind.i64.wrap ((BitVec.ofInt 64 (x:Int)|||BitVec.ofInt 64 (y:Int)).toNat:Int)=((x|||y:Nat):Int):=by
 have e:(BitVec.ofInt 64 (x:Int)|||BitVec.ofInt 64 (y:Int)).toNat=x|||y:=by
  simp [BitVec.toNat_or,Nat.mod_eq_of_lt (show x<18446744073709551616 by omega),Nat.mod_eq_of_lt (show y<18446744073709551616 by omega)]
 have h:x|||y<2^63:=Nat.or_lt_two_pow (by omega) (by omega);rw [e];exact IntWalk.i64_in _ (by omega)
@[go_sem high] theorem Zg4 {P:Program} {t:TypeId} {x y:Nat} (hx:x<9223372036854775808) (hy:y<9223372036854775808):Yf P .or t (.p (.int .i64 (x:Int))) (.p (.int .i64 (y:Int)))=some (.int .i64 ((x|||y:Nat):Int)):=by
 rw [ZeI];exact congrArg (fun q=>some (PV.int .i64 q)) (ZoD x y hx hy)
def pw (k:Nat):Nat:=2^k
theorem ZjU (k:Nat):pw (k+1)=2*pw k:=by simp [pw,Nat.pow_succ];omega
theorem Zez {k m:Nat} (h:k<=m):pw k<=pw m:=Nat.pow_le_pow_right (by omega) h
theorem Zjg (k:Nat):0<pw k:=Nat.pow_pos (by omega)
theorem Zdb : pw 62=4611686018427387904:=by decide
@[go_sem high] theorem Zn0 {P:Program} {t:TypeId} {k'} {a:Int} (h0:0<=a) (h1:a<=62):Yf P .shl t (.p (.int .i64 1)) (.p (.int k' a))=some (.int .i64 ((pw a.toNat:Nat):Int)):=by
 rw [Zg5 h0]
 have h2:min a.toNat IntKind.i64.bits=a.toNat:=by show min a.toNat 64=a.toNat;omega
 rw [h2,Int.one_mul]
 have h3:((2:Int)^a.toNat)=((pw a.toNat:Nat):Int):=by simp [pw]
 rw [h3];have:=Zez (show a.toNat<=62 by omega);have:=Zdb;rw [IntWalk.i64_in _ (by omega)]
attribute [go_sem] List.length_append List.map_append not_false_eq_true not_true_eq_false false_and and_false true_or or_true false_or or_false Classical.not_not Bool.false_eq_true Bool.and_false Bool.false_and
end Go.AM
namespace Go.AM
open Go.RowKit
theorem ZdK {P ds frJ H} {K K':List V->Prop} : ∀(l:List Oper) (i:Nat) (vals:List V),(∀ys,ys.length=vals.length+l.length->K ys->K' ys)->hd P ds frJ H K i l vals->hd P ds frJ H K' i l vals
 | [],i,vals,hk,h=>hk vals rfl h
 | o::l,i,vals,hk,h=>by
  have ih: ∀y,hd P ds frJ H K (i+1) l (vals++ [y])->hd P ds frJ H K' (i+1) l (vals++ [y]):=fun y=>ZdK l (i+1) (vals++ [y]) fun ys hy=>hk ys (by simp at hy ⊢;omega);simp only [hd] at h ⊢
  split at h
  ·obtain ⟨y,h1,h2⟩:=h;exact ⟨y,h1,ih y h2⟩
  ·unfold ZX at h ⊢
   split at h
   ·exact ⟨fun e=>by obtain ⟨y,h1,h2⟩:=h.1 e;exact ⟨y,h1,ih y h2⟩,fun e=>ih _ (h.2 e)⟩
   ·exact ih _ h
   ·exact h.elim
def XZ : List (Option Nat)->List V->List V->List V
 | some d::ds,v::vals,fr=>XZ ds vals (pt fr d v)
 | none::ds,_::vals,fr=>XZ ds vals fr
 | _,_,fr=>fr
def exq (A:V->Prop) (B:V->Prop):Prop:= ∃y,A y/\B y
section
variable {P : Program} {ds : List (Option Nat)} {frJ : List V} {H : List Obj} {K : List V -> Prop} {i : Nat} {r : List Oper} {vals : List V} {d : Option Nat} {op : Op} {t : TypeId} {ps : String} {af : Array Edge}
@[go_sem ↓, go_sem] theorem Zx5 {v:V} {B:V->Prop} {t} :exq (fun y=>v=y) (ZE B t)=B v:=by simp [exq,ZE]
def Zpw (ds:List (Option Nat)) (vals:List V) (l:List Nat) (fr:List V) (a:Option (Option Nat)) (v:Option V):List V:=match a,v with
 | some (some d),some v=>ZN ds vals l (pt fr d v)
 | _,_=>ZN ds vals l fr
theorem Zs {f azs} {z:PV} {B:V->Prop} {t} (h:ACalls P f azs [] fun x H'=>x= .p z/\H'= []) (k:B (.p z)) (ha:ZT 0 azs=true:=by rfl) :
  exq (fun y=>ACalls P f azs H (ZE (ZE (fun x H'=>x=y/\H'=H) ⟨⟩) ⟨⟩)) (ZE B t) :=
 ⟨.p z,h.use ⟨rfl,rfl⟩ ha,k⟩
end
section
variable {P : Program} {fr : List V} {H : List Obj} {k : V -> List Obj -> Prop} {d : Option Nat} {t : TypeId} {ps : String} {af : Array Edge} {g : Option (Nat × Bool)}
@[go_sem ↓] theorem Zmj {u n l} :Zr P ⟨d,.buildSlice u n (List.toArray l),t,ps,af,g⟩ fr H k=pst ((Zc6 (JW P u) H n (l.map fun x=>(x.1,ev fr x.2))).map .p) (ZE (fun v=>k v H) ⟨⟩):=by
 simp only [Zr]
 cases (Zc6 (JW P u) H n (l.map fun x=>(x.1,ev fr x.2)))<;>simp [pst,ZE]
@[go_sem] theorem ZlA {S n l} :Zc6 (some S) H n l=if n=l.length/\n*S<=16777216/\0<S then (Qx H S 0 l).map (.list false) else none:=Eq.trans rfl rfl
@[go_sem ↓] theorem ZjN {x} :Zr P ⟨d,.move x,t,ps,af,g⟩ fr H k=Zp P ⟨d,.move x,t,ps,af,g⟩ fr H k:=rfl
@[go_sem ↓] theorem ZgW {x} :Zr P ⟨d,.assign x,t,ps,af,g⟩ fr H k=Zp P ⟨d,.assign x,t,ps,af,g⟩ fr H k:=rfl
@[go_sem ↓] theorem ZjI {x y z} :Zr P ⟨d,.pick x y z,t,ps,af,g⟩ fr H k=Zp P ⟨d,.pick x y z,t,ps,af,g⟩ fr H k:=rfl
@[go_sem ↓] theorem Zir {x} :Zr P ⟨d,.alloc x,t,ps,af,g⟩ fr H k=Zp P ⟨d,.alloc x,t,ps,af,g⟩ fr H k:=rfl
@[go_sem ↓] theorem ZlE {x y} :Zr P ⟨d,.box x y,t,ps,af,g⟩ fr H k=Zp P ⟨d,.box x y,t,ps,af,g⟩ fr H k:=rfl
@[go_sem ↓] theorem ZiS {x y} :Zr P ⟨d,.build x y,t,ps,af,g⟩ fr H k=Zp P ⟨d,.build x y,t,ps,af,g⟩ fr H k:=rfl
@[go_sem ↓] theorem Zld {x y} :Zr P ⟨d,.load x y,t,ps,af,g⟩ fr H k=Zp P ⟨d,.load x y,t,ps,af,g⟩ fr H k:=rfl
@[go_sem ↓] theorem Zi7 {x y z} :Zr P ⟨d,.store x y z,t,ps,af,g⟩ fr H k=Zp P ⟨d,.store x y z,t,ps,af,g⟩ fr H k:=rfl
@[go_sem ↓] theorem Zd8 {x} :Zr P ⟨d,.nilCheck x,t,ps,af,g⟩ fr H k=Zp P ⟨d,.nilCheck x,t,ps,af,g⟩ fr H k:=rfl
@[go_sem ↓] theorem Zja {x y z u v} :Zr P ⟨d,.binOp x y z u v,t,ps,af,g⟩ fr H k=Zp P ⟨d,.binOp x y z u v,t,ps,af,g⟩ fr H k:=rfl
@[go_sem ↓] theorem Zlb {x y z} :Zr P ⟨d,.unOp x y z,t,ps,af,g⟩ fr H k=Zp P ⟨d,.unOp x y z,t,ps,af,g⟩ fr H k:=rfl
@[go_sem ↓] theorem Zgl {x y z} :Zr P ⟨d,.convert x y z,t,ps,af,g⟩ fr H k=Zp P ⟨d,.convert x y z,t,ps,af,g⟩ fr H k:=rfl
@[go_sem ↓] theorem ZeA {x y z} :Zr P ⟨d,.makeFunc x y z,t,ps,af,g⟩ fr H k=Zp P ⟨d,.makeFunc x y z,t,ps,af,g⟩ fr H k:=rfl
@[go_sem ↓] theorem Zdl {x y z} :Zr P ⟨d,.makeSlice x y z,t,ps,af,g⟩ fr H k=Zp P ⟨d,.makeSlice x y z,t,ps,af,g⟩ fr H k:=rfl
@[go_sem ↓] theorem ZiU {x y z u v} :Zr P ⟨d,.slice x y z u v,t,ps,af,g⟩ fr H k=Zp P ⟨d,.slice x y z u v,t,ps,af,g⟩ fr H k:=rfl
@[go_sem ↓] theorem Zdq {x y z} :Zr P ⟨d,.fieldAddr x y z,t,ps,af,g⟩ fr H k=Zp P ⟨d,.fieldAddr x y z,t,ps,af,g⟩ fr H k:=rfl
@[go_sem ↓] theorem Ziw {x y z} :Zr P ⟨d,.field x y z,t,ps,af,g⟩ fr H k=Zp P ⟨d,.field x y z,t,ps,af,g⟩ fr H k:=rfl
@[go_sem ↓] theorem Zds {x y z} :Zr P ⟨d,.indexAddr x y z,t,ps,af,g⟩ fr H k=Zp P ⟨d,.indexAddr x y z,t,ps,af,g⟩ fr H k:=rfl
@[go_sem ↓] theorem Zi3 {x y z} :Zr P ⟨d,.index x y z,t,ps,af,g⟩ fr H k=Zp P ⟨d,.index x y z,t,ps,af,g⟩ fr H k:=rfl
@[go_sem ↓] theorem Zgg {x y} :Zr P ⟨d,.extract x y,t,ps,af,g⟩ fr H k=Zp P ⟨d,.extract x y,t,ps,af,g⟩ fr H k:=rfl
@[go_sem ↓] theorem Zky {x y z} :Zr P ⟨d,.call ⟨.value x,y,z⟩,t,ps,af,g⟩ fr H k=Zp P ⟨d,.call ⟨.value x,y,z⟩,t,ps,af,g⟩ fr H k:=rfl
@[go_sem ↓] theorem ZlX {y z} :Zr P ⟨d,.call ⟨.builtin .len,y,z⟩,t,ps,af,g⟩ fr H k=Zp P ⟨d,.call ⟨.builtin .len,y,z⟩,t,ps,af,g⟩ fr H k:=rfl
@[go_sem ↓] theorem Zl7 {y z} :Zr P ⟨d,.call ⟨.builtin .max,y,z⟩,t,ps,af,g⟩ fr H k=Zp P ⟨d,.call ⟨.builtin .max,y,z⟩,t,ps,af,g⟩ fr H k:=rfl
@[go_sem ↓] theorem Zl1 {y z} :Zr P ⟨d,.call ⟨.builtin .min,y,z⟩,t,ps,af,g⟩ fr H k=Zp P ⟨d,.call ⟨.builtin .min,y,z⟩,t,ps,af,g⟩ fr H k:=rfl
theorem Kj {o fr' H'} (h:fr=fr') (h2:H=H'):Zr P o fr H k=Zr P o fr' H' k:=by rw [h,h2]
end
attribute [congr] Kj
attribute [go_sem] List.filter_cons List.filter_nil
end Go.AM
namespace Go.AM
open Go.RowKit
mutual
/-- no memory in it -/
def ZjV : PV->Bool
 | .list _ xs=>xs.isEmpty
 | .agg cs=>KU cs
 | _=>true
def KU : List PV->Bool
 | []=>true
 | x::l=>ZjV x&&KU l
end
theorem Ve : ∀ {l:List PV},KU l=true-> ∀(j:Nat) (x:PV),l[j]? =some x->ZjV x=true
 | [],_,j,x,h=>by simp at h
 | y::l,hh,j,x,h=>by
  simp [KU] at hh
  cases j with
  | zero=>simp at h;subst h;exact hh.1
  | succ j=>exact Ve hh.2 j x (by simpa using h)
theorem RP.anywhere {X X':Nat->Prop} {w w' x v} (h:RP X w x v) (hf:ZjV x=true):RP X' w' x v:=by
 induction h with
 | int k n=>exact .int k n
 | bool b=>exact .bool b
 | str s=>exact .str s
 | nilp=>exact .nilp
 | nili=>exact .nili
 | nilf=>exact .nilf
 | nilm=>exact .nilm
 | fn f=>exact .fn f
 | nils cl=>exact .nils cl
 | emp cl a cap hc hm ha=>exact .emp cl a cap hc hm ha
 | list cl xs b off cap S u hX hb hc hm hcl hS hu hr ih =>
  have:xs= []:=by simpa [ZjV] using hf
  subst this;exact .emp cl _ cap (fun h=>by simpa using hcl h) hm (fun _ x hx=>by simp at hx;subst hx;rfl)
 | agg cs a hs _ ih=>exact .agg cs a hs fun j c hj=>ih j c hj (Ve (by simpa [ZjV] using hf) j c hj)
def vw (H:List Obj):V->Option V
 | .p x=>some (.p x)
 | .fn f [] []=>some (.fn f [] [])
 | .sl o off len tot=>match oat H o with
  | .elems _ xs=>if xs.length=tot/\off+len<=tot then some (.p (.list false ((xs.take (off+len)).drop off))) else none
  | _=>none
 | _=>none
def vws (H:List Obj):List V->Option (List V)
 | []=>some []
 | x::l=>match vw H x,vws H l with | some y,some ys=>some (y::ys) | _,_=>none
abbrev Zgj : Nat->Prop:=fun _=>False
theorem Ud {b:Nat} : ¬Own Zgj [] b:=by simp [Own]
theorem Zwf {F H ι w x v y} (hr:Rel F H ι w) (h:RV F H ι w x v) (hy:vw H x=some y):RV Zgj [] [] w y v:=by
 unfold vw at hy
 split at hy
 ·simp at hy;subst hy
  cases h with | p _ _ h=>exact .p _ _ (h.weaker fun b hb=>absurd hb Ud)
 ·simp at hy;subst hy;generalize v=u at h
  cases h with
  | fn _ _ _ a e hs ht _ _=>exact .fn _ [] [] a e hs ht (fun j c hj=>by simp at hj) (fun j c hj=>by simp at hj)
 ·rename_i o off len tot
  split at hy
  ·rename_i S xs ho
   split at hy
   ·rename_i hc;simp at hy;subst hy;exact .p _ _ (UQ _ (fun b _ hb=>Ud hb) (fun b _ hs=>⟨Ud,hs,rfl⟩) hr (ZB ho (by simp)) hc.1 hc.2 h)
   ·cases hy
  ·cases hy
 ·cases hy
theorem ZfH {H} : ∀ {l l':List V},vws H l=some l'->l'.length=l.length/\ ∀(j:Nat) (y:V),l'[j]? =some y-> ∃x,l[j]? =some x/\vw H x=some y
 | [],l',h=>by simp [vws] at h;subst h;exact ⟨rfl,fun j y hj=>by simp at hj⟩
 | x::l,l',h=>by
  simp only [vws] at h
  split at h
  ·rename_i y ys h1 h2;simp at h;subst h;obtain ⟨e,hg⟩:=ZfH h2;refine ⟨by simp [e],fun j z hj=> ?_⟩
   cases j with
   | zero=>simp at hj;subst hj;exact ⟨x,by simp,h1⟩
   | succ j=>obtain ⟨q,q1,q2⟩:=hg j z (by simpa using hj);exact ⟨q,by simpa using q1,q2⟩
  ·cases h
theorem Good.lift {F H ι w H1 ι1 w'} (hr:Rel F H ι w) (g:Good Zgj [] [] w H1 ι1 w') (h1: ∀(o:Nat) (ob:Obj),H1[o]? =some ob-> ∃S xs,ob= .elems S xs/\KU xs=true):Good (Own F ι) [] [] w H1 ι1 w':=by
 have hnew: ∀b,some b∈ι1-> ¬b<w.heap.size:=fun b hb hlt=>g.own b hlt (by simp) hb
 have hold: ∀b,Own F ι b->b<w.heap.size:=fun b hb=>by
  rcases hb with hb | hb
  ·exact hr.fin b hb
  ·obtain ⟨i,hi⟩:=List.mem_iff_getElem?.1 hb;exact (hr.avo i b hi).2
 refine Good.up hr.env.fresh ⟨⟨g.rel.len,fun b hb=>by have:=hold b hb;have:=g.size;omega,g.rel.inj,fun i b hi=> ?_,fun o cs ho=> ?_,fun o S xs ho=> ?_,fun o es ho=>(by obtain ⟨S,xs,e,_⟩:=h1 o _ ho;cases e),fun o T E r bs ho=>(by obtain ⟨S,xs,e,_⟩:=h1 o _ ho;cases e)⟩,g.os,g.tape,g.output,g.shape,g.size,g.keep,g.own,g.hx⟩
 ·refine ⟨fun hb=>hnew b (List.mem_of_getElem? hi) (hold b hb),(g.rel.avo i b hi).2⟩
 ·obtain ⟨S,xs,e,_⟩:=h1 o _ ho
  cases e
 ·rcases g.rel.elm o S xs ho with e | ⟨b,c,t,cap,e1,e2,e3,e4,e5,e6,e7⟩
  ·exact .inl e
  ·refine .inr ⟨b,c,t,cap,e1,e2,e3,e4,e5,e6,fun i x j y hi hj=> ?_⟩;obtain ⟨S',xs',e,hf⟩:=h1 o _ ho;simp at e;obtain ⟨rfl,rfl⟩:=e;have hx:=Ve hf i x hi;refine (e7 i x j y hi hj).anywhere ?_
   cases x<;>simp only [PV.cells] at hj
   case agg cs=>exact Ve (by simpa [ZjV] using hx) j y hj
   all_goals (cases j with
    | zero=>simp at hj;subst hj;exact hx
    | succ j=>simp at hj)
theorem Zbd {w:World} (he:Env Zgj [] w):Rel Zgj [] [] w:=⟨⟨rfl,fun b hb=>hb.elim,fun i j b hi=>by simp at hi,fun i b hi=>by simp at hi,fun o cs ho=>by simp at ho,fun o S xs ho=>by simp at ho,fun o es ho=>by simp at ho,fun o T E r bs ho=>by simp at ho⟩,he⟩
theorem ACalls.viewF {P g args args'} {S n:Nat} {xs:List PV} {H:List Obj} {K:V->List Obj->Prop} (h:ACalls P g args' [] fun x H'=>x= .sl 0 0 n n/\H'= [.elems S xs]) (hv:vws H args=some args') (hy:KU xs=true) (k:K (.sl H.length 0 n n) (H++ [.elems S xs])):ACalls P g args H K:=by
 refine ⟨h.1,fun F ι w vs hr hvs=> ?_⟩;obtain ⟨e,hg⟩:=ZfH hv;refine (h.2 Zgj [] w vs (Zbd hr.env.noth) ⟨by rw [hvs.1,e],fun j c hj=> ?_⟩).mono ?_
 ·obtain ⟨x,h1,h2⟩:=hg j c hj;exact Zwf hr (hvs.2 j x h1) h2
 ·rintro e w' ⟨x,H',ι',v,rfl,⟨rfl,rfl⟩,gd,rv⟩
  have gl:=gd.lift hr (fun o ob ho=>by
   cases o with
   | zero=>simp at ho;exact ⟨S,xs,ho.symm,hy⟩
   | succ o=>simp at ho)
  have g2:=gl.behind hr
  have rv2:RV (Own F ι) [.elems S xs] ι' w' (.sl 0 0 n n) v:=by
   cases rv with
   | slNil _ S a h3 h2=>exact .slNil _ S a h3 h2
   | sl _ _ _ _ b S cap t xs c h1 h2 ht hw hcap hl hlen hm=>exact .sl _ _ _ _ b S cap t xs c h1 h2 ht hw hcap hl hlen hm
   | slD _ _ _ _ _ h1=>simp at h1
   | slS _ _ _ _ _ S xs h1 hne=>exact .slS _ _ _ _ _ S xs h1 hne
   | slC _ _ _ _ _ _ h1=>simp at h1
  exact ⟨_,_,_,v,rfl,by simpa [shV,shO] using k,g2,by simpa [shV] using rv2.sh hr.len⟩
def rd1 (H:List Obj):V->Option PV
 | .p x=>some x
 | .sl o off len tot=>match oat H o with
  | .elems _ xs=>if xs.length=tot/\off+len<=tot then some (.list false ((xs.take (off+len)).drop off)) else none
  | _=>none
 | _=>none
def rds (H:List Obj):List V->Option (List PV)
 | []=>some []
 | x::l=>match rd1 H x,rds H l with | some y,some ys=>some (y::ys) | _,_=>none
def rd (H:List Obj):V->Option PV
 | .agg cs=>(rds H cs).map .agg
 | x=>rd1 H x
attribute [go_sem] Option.map_none
end Go.AM
set_option linter.unusedVariables false
set_option linter.unusedSimpArgs false
namespace Go.Proofs.YtbdmjphjnniogaaGreatDoor.K
open Go Go.AM
def Val (n:Nat) (be:List (Int×Int)):Prop:= ∀p∈be,0<=p.1/\p.1<n/\0<=p.2/\p.2<n
theorem Q1 (a b:Nat):(pw a).testBit b=decide (a=b):=by simp [pw,Nat.testBit_two_pow]
def tot (l:List Nat):Nat:=l.foldr (· + ·) 0
end Go.Proofs.YtbdmjphjnniogaaGreatDoor.K
