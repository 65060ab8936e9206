/- Declarations that the closing texts need, part 5: joined by tools/slim.py. -/
import Derived.Test.YthmplgaldjpgiaaGreatDoorZ4
set_option linter.unusedVariables false
set_option linter.unusedSimpArgs false
universe u
namespace Go.AM
open Go.RowKit
structure Tk {α:Sort u} (a:α):Type where
def Zv {α:Sort u} (a:α) (_:Tk a):α:=a
@[go_sem] theorem ZtR {α β:Type} {f:α->β} {t x} :Zv f t x=f x:=Eq.trans rfl rfl
@[go_sem ↓] theorem Zte {α β:Type} {f:α->β->Prop} {t x y} :Zv f t x y=f x y:=Eq.trans rfl rfl
@[go_sem ↓] theorem Zvk {α β γ:Type} {f:α->β->γ->Prop} {t x y z} :Zv f t x y z=f x y z:=Eq.trans rfl rfl
def pst (x:Option V) (K:V->Prop):Prop:=match x with | some v=>K v | none=>False
def mst (x:Option (V×List Obj)) (K:V->List Obj->Prop):Prop:=match x with | some (v,H)=>K v H | none=>False
def bst (x:V) (K:Bool->Prop):Prop:=match x with | .p (.bool b)=>K b | _=>False
def hst (x:Option (List Obj)) (K:List Obj->Prop):Prop:=match x with | some H=>K H | none=>False
@[go_sem ↓, go_sem] theorem Zv0 {v K} :pst (some v) K=K v:=Eq.trans rfl rfl
@[go_sem ↓, go_sem] theorem ZvP {v H K} :mst (some (v,H)) K=K v H:=Eq.trans rfl rfl
@[go_sem ↓, go_sem] theorem Zxk {H K} :hst (some H) K=K H:=Eq.trans rfl rfl
@[congr] theorem Zst {x x' K} (h:x=x'):pst x K=pst x' K:=by rw [h]
@[congr] theorem Zp4 {x x' K} (h:x=x'):mst x K=mst x' K:=by rw [h]
@[congr] theorem ZuG {x x' K} (h:x=x'):hst x K=hst x' K:=by rw [h]
def idF (fr:List V):List V:=fr
@[go_sem] theorem ZBH {fr} :idF fr=fr:=Eq.trans rfl rfl
section code
variable {cuts : List Nat} {P : Program} {fr : List V} {H : List Obj} {Q : Exit -> List V -> List Obj -> Prop}
@[go_sem ↓] theorem Zp0 : awp cuts P .skip fr H Q=Q .normal fr H:=Eq.trans rfl rfl
@[go_sem ↓] theorem Zmw {id} {l:List Oper} :awp cuts P (.region id l.toArray false) fr H Q=YB P (l.map (·.dst)) l (idF fr) H (Zv (Q .normal) ⟨⟩):=by simp [awp,idF,Zv]
@[go_sem ↓] theorem ZpN {id ops} :awp cuts P (.region id ops true) fr H Q=AWP P (.region id (Zv ops ⟨⟩) true) fr H (Zv Q ⟨⟩):=by simp [awp,Zv]
@[go_sem ↓] theorem ZwV {x y} :awp [] P (.seq x y) fr H Q=awp [] P x fr H (Us (fun fr H=>awp [] P y fr H Q) Q):=by
 rw [awp];cases hid x<;>simp
def Zlt (b:Bool) (A B:Prop):Prop:=if b then A else B
def Zdp (cuts:List Nat):Option Nat->Bool
 | some i=>cuts.contains i
 | none=>false
@[go_sem ↓] theorem Zsd {k x y} :awp (k::cuts) P (.seq x y) fr H Q=Zlt (Zdp (k::cuts) (hid x)) (Zv (AWP P (.seq (Zv x ⟨⟩) (Zv y ⟨⟩)) fr H (Zv Q ⟨⟩)) ⟨⟩) (Zv (awp (k::cuts) P x fr H (Us (fun fr H=>awp (k::cuts) P y fr H Q) Q)) ⟨⟩):=by
 rw [awp];cases hid x<;>simp [Zlt,Zdp,Zv]
@[go_sem ↓, go_sem] theorem ZtH {A B:Prop} {t} :Zlt true (Zv A t) B=A:=by simp [Zlt,Zv]
@[go_sem ↓, go_sem] theorem ZpC {A B:Prop} {t} :Zlt false A (Zv B t)=B:=by simp [Zlt,Zv]
theorem Ze3 {b b' A B} (h:b=b'):Zlt b A B=Zlt b' A B:=by rw [h]
@[go_sem ↓] theorem ZoX {id ops d} :hid (.region id ops d)=some id:=Eq.trans rfl rfl
@[go_sem ↓] theorem ZyU {x y} :hid (.seq x y)=hid x:=Eq.trans rfl rfl
@[go_sem ↓] theorem ZuD {id c} :hid (.block id c)=hid c:=Eq.trans rfl rfl
@[go_sem ↓] theorem ZxF {c x y} :hid (.cond c x y)=none:=Eq.trans rfl rfl
@[go_sem ↓] theorem Zw8 {c} :hid (.loop c)=none:=Eq.trans rfl rfl
@[go_sem] theorem ZoO : Zdp cuts none=false:=Eq.trans rfl rfl
@[go_sem] theorem ZtQ {i} :Zdp [] (some i)=false:=Eq.trans rfl rfl
@[go_sem] theorem ZoS {k i} :Zdp (k::cuts) (some i)=(decide (i=k)||Zdp cuts (some i)):=by by_cases h:i=k<;>simp [Zdp,h]
@[go_sem ↓] theorem Zsq {c x y} :awp cuts P (.cond c x y) fr H Q=Vq (ev fr c) (Zv (awp cuts P x fr H Q) ⟨⟩) (Zv (awp cuts P y fr H Q) ⟨⟩):=Eq.trans rfl rfl
@[go_sem ↓] theorem ZpH {id c} :awp cuts P (.block id c) fr H Q=awp cuts P c fr H (Vf id Q):=Eq.trans rfl rfl
@[go_sem ↓] theorem Zre {id} :awp cuts P (.exit id) fr H Q=Q (.exit id) fr H:=Eq.trans rfl rfl
@[go_sem ↓] theorem Zxg : awp cuts P .ret fr H Q=Q .ret fr H:=Eq.trans rfl rfl
@[go_sem ↓] theorem Ztw {c} :awp cuts P (.loop c) fr H Q=AWP P (.loop (Zv c ⟨⟩)) fr H (Zv Q ⟨⟩):=Eq.trans rfl rfl
@[go_sem ↓] theorem Zsx {c t} :awp cuts P (Zv c t) fr H Q=awp cuts P c fr H Q:=Eq.trans rfl rfl
theorem Zig {c fr' H'} (h:fr=fr') (h2:H=H'):awp cuts P c fr H Q=awp cuts P c fr' H' Q:=by rw [h,h2]
theorem Zgs {c fr' H'} (h:fr=fr') (h2:H=H'):AWP P c fr H Q=AWP P c fr' H' Q:=by rw [h,h2]
@[go_sem ↓] theorem Zlx {A:List V->List Obj->Prop} :Us A Q .normal fr H=A fr H:=Eq.trans rfl rfl
@[go_sem ↓] theorem Zo5 {A:List V->List Obj->Prop} {id} :Us A Q (.exit id) fr H=Q (.exit id) fr H:=Eq.trans rfl rfl
@[go_sem ↓] theorem Zq8 {A:List V->List Obj->Prop} :Us A Q .ret fr H=Q .ret fr H:=Eq.trans rfl rfl
@[go_sem ↓] theorem Zkx {id} :Vf id Q .normal fr H=Q .normal fr H:=Eq.trans rfl rfl
@[go_sem ↓] theorem Zpf {id} :Vf id Q .ret fr H=Q .ret fr H:=Eq.trans rfl rfl
@[go_sem ↓] theorem Zon {id id'} :Vf id Q (.exit id') fr H=if id'=id then Q .normal fr H else Q (.exit id') fr H:=Eq.trans rfl rfl
theorem Zdo {A:List V->List Obj->Prop} {e fr' H'} (h:fr=fr') (h2:H=H'):Us A Q e fr H=Us A Q e fr' H':=by rw [h,h2]
theorem Zcj {id e fr' H'} (h:fr=fr') (h2:H=H'):Vf id Q e fr H=Vf id Q e fr' H':=by rw [h,h2]
@[go_sem ↓] theorem Zoz {rs} {Q:V->List Obj->Prop} :Zdc P rs Q .normal fr H=mst ((XU P fr H rs).map fun xs=>(Vc xs,H)) (Zv Q ⟨⟩):=by
 simp only [Zdc,Zv];split<;>simp_all [mst]
@[go_sem ↓] theorem ZwB {rs} {Q:V->List Obj->Prop} :Zdc P rs Q .ret fr H=mst ((XU P fr H rs).map fun xs=>(Vc xs,H)) (Zv Q ⟨⟩):=by
 simp only [Zdc,Zv];split<;>simp_all [mst]
theorem Zfo {rs e fr' H'} {Q:V->List Obj->Prop} (h:fr=fr') (h2:H=H'):Zdc P rs Q e fr H=Zdc P rs Q e fr' H':=by rw [h,h2]
@[go_sem] theorem ZpE : XU P fr H []=some []:=Eq.trans rfl rfl
@[go_sem] theorem Zpm {t l} :XU P fr H (.tmp t::l)=(XU P fr H l).map (gt fr t:: ·):=by
 simp only [XU,Zpd];cases XU P fr H l<;>rfl
@[go_sem] theorem ZnU {a t l} :XU P fr H (.cell a t::l)=(UM P H t (gt fr a)).bind fun x=>(XU P fr H l).map (x:: ·):=by
 simp only [XU,Zpd];cases UM P H t (gt fr a)<;>cases XU P fr H l<;>rfl
@[go_sem] theorem ZpO {x} :Vc [x]=x:=Eq.trans rfl rfl
@[go_sem] theorem ZoG : Vc []= .tup []:=Eq.trans rfl rfl
@[go_sem] theorem Zfj {x y l} :Vc (x::y::l)= .tup (x::y::l):=Eq.trans rfl rfl
end code
attribute [congr] Ze3 Zig Zgs Zdo Zcj Zfo
@[go_sem] theorem Zy2 {x:V} {l} :gt (x::l) 0=x:=Eq.trans rfl rfl
@[go_sem] theorem ZA9 {x:V} {l n} :gt (x::l) (n+1)=gt l n:=Eq.trans rfl rfl
@[go_sem] theorem ZDs {n} :gt [] n= .junk:=Eq.trans rfl rfl
@[go_sem] theorem Zye {x v:V} {l} :pt (x::l) 0 v=v::l:=Eq.trans rfl rfl
@[go_sem] theorem Zzg {x v:V} {l n} :pt (x::l) (n+1) v=x::pt l n v:=Eq.trans rfl rfl
@[go_sem] theorem Zw0 {fr d v} :ptO fr (some d) v=pt fr d v:=Eq.trans rfl rfl
@[go_sem] theorem ZxH {fr v} :ptO fr none v=fr:=Eq.trans rfl rfl
@[go_sem] theorem Zw9 {x:Obj} {l} :oat (x::l) 0=x:=Eq.trans rfl rfl
@[go_sem] theorem Zwg {x:Obj} {l n} :oat (x::l) (n+1)=oat l n:=Eq.trans rfl rfl
@[go_sem] theorem ZxR {x v:Obj} {l} :ost (x::l) 0 v=v::l:=Eq.trans rfl rfl
@[go_sem] theorem Zwp {x v:Obj} {l n} :ost (x::l) (n+1) v=x::ost l n v:=Eq.trans rfl rfl
@[go_sem] theorem Zyw {fr t} :evx fr (.tmp t)=gt fr t:=Eq.trans rfl rfl
@[go_sem] theorem ZoT {fr g} :evx fr (.global g)=ZtV g:=Eq.trans rfl rfl
@[go_sem] theorem ZCE {fr t} :ev fr (.tmp t)=gt fr t:=Eq.trans rfl rfl
@[go_sem] theorem ZAb {fr f} :ev fr (.func f)= .fn (.func f) [] []:=Eq.trans rfl rfl
@[go_sem] theorem ZCZ {fr k n} :ev fr (.const (.int k n))= .p (.int k n):=Eq.trans rfl rfl
@[go_sem] theorem Zzo {fr b} :ev fr (.const (.bool b))= .p (.bool b):=Eq.trans rfl rfl
@[go_sem] theorem ZBG {fr s} :ev fr (.const (.string s))= .p (.str s.data.toList):=Eq.trans rfl rfl
@[go_sem] theorem ZBh {fr} :ev fr (.const (.slice none 0 0))= .p (.list true []):=Eq.trans rfl rfl
@[go_sem] theorem ZzB {fr} :ev fr (.const (.pointer none))= .p .nilp:=Eq.trans rfl rfl
@[go_sem] theorem ZCu {fr l} :ev fr (.const (.agg (List.toArray l)))=match cvs l with | some xs=> .p (.agg xs) | none=> .junk:=Eq.trans rfl rfl
@[go_sem] theorem ZxA {fr d} {l:List (Option Nat)} :gAt fr (some d::l) 0=gt fr d:=by simp [gAt]
@[go_sem] theorem Zx0 {fr o n} {l:List (Option Nat)} :gAt fr (o::l) (n+1)=gAt fr l n:=by simp [gAt]
section ops
variable {P : Program} {fr : List V} {H : List Obj} {ds : List (Option Nat)} {K : List V -> List Obj -> Prop} {r : List Oper} {d : Option Nat} {t : TypeId} {ps : String} {af : Array Edge} {g : Option (Nat × Bool)} {k : V -> List Obj -> Prop}
theorem Zfz {l fr' H'} (h:fr=fr') (h2:H=H'):YB P ds l fr H K=YB P ds l fr' H' K:=by rw [h,h2]
theorem ZcH {o fr' H'} (h:fr=fr') (h2:H=H'):Zt P o fr H k=Zt P o fr' H' k:=by rw [h,h2]
@[go_sem ↓] theorem Zx4 : YB P ds [] fr H K=K fr H:=Eq.trans rfl rfl
@[go_sem] theorem ZsW {op} :YB P ds (⟨d,op,t,ps,af,none⟩::r) fr H K=Zt P ⟨d,op,t,ps,af,none⟩ fr H (Zv (fun x H'=>YB P ds r (ptO fr d x) H' K) ⟨⟩):=Eq.trans rfl rfl
@[go_sem] theorem Zpj {op j b} :YB P ds (⟨d,op,t,ps,af,some (j,b)⟩::r) fr H K=Z3 (gAt fr ds j) b (Zv (Zt P ⟨d,op,t,ps,af,none⟩ fr H (Zv (fun x H'=>YB P ds r (ptO fr d x) H' K) ⟨⟩)) ⟨⟩) (Zv (YB P ds r (ptO fr d (.tup [])) H K) ⟨⟩):=by
 simp only [YB,Zv];unfold Z3
 split<;>rfl
theorem ZA {op:Op} (h:XI op=none) (h2:W5 P op fr H=none):Zt P ⟨d,op,t,ps,af,g⟩ fr H k=pst (ZB P op fr H) fun x=>k x H:=by
 simp only [Zt,h,aop,h2]
 all_goals (cases ZB P op fr H<;>rfl)
theorem XM {op:Op} (h:XI op=none) (h2:ZB P op fr H=none):Zt P ⟨d,op,t,ps,af,g⟩ fr H k=mst (W5 P op fr H) k:=by
 simp only [Zt,h,aop,h2,mst]
 all_goals (cases W5 P op fr H<;>rfl)
@[go_sem ↓] theorem ZpG {x} :Zt P ⟨d,.move x,t,ps,af,g⟩ fr H k=k (ev fr x) H:=by rw [ZA rfl rfl];rfl
@[go_sem ↓] theorem ZlO {x} :Zt P ⟨d,.assign x,t,ps,af,g⟩ fr H k=k (ev fr x) H:=by rw [ZA rfl rfl];rfl
def vif (b:Bool) (x y:V):V:=if b then x else y
@[go_sem] theorem Zw6 {x y} :vif true x y=x:=Eq.trans rfl rfl
@[go_sem] theorem Zqn {x y} :vif false x y=y:=Eq.trans rfl rfl
@[go_sem] theorem Zwl {b x y} :vif b (.p (.bool x)) (.p (.bool y))= .p (.bool (if b then x else y)):=by cases b<;>rfl
@[go_sem] theorem Zvu {b} :asB (.p (.bool b))=some b:=Eq.trans rfl rfl
@[go_sem ↓] theorem ZpQ {c x y} :Zt P ⟨d,.pick c x y,t,ps,af,g⟩ fr H k=pst ((asB (ev fr c)).map fun b=>vif b (ev fr x) (ev fr y)) (Zv (fun v=>k v H) ⟨⟩):=by
 rw [ZA rfl rfl];simp only [ZB,Xe]
 cases asB (ev fr c)<;>rfl
@[go_sem ↓] theorem Zpw {u x} :Zt P ⟨d,.load u x,t,ps,af,g⟩ fr H k=pst (UM P H u (ev fr x)) (Zv (fun v=>k v H) ⟨⟩):=by rw [ZA rfl rfl];rfl
@[go_sem ↓] theorem ZiK {x} :Zt P ⟨d,.nilCheck x,t,ps,af,g⟩ fr H k=pst (if Ye H (ev fr x)||Zqp (ev fr x) then some (ev fr x) else none) (Zv (fun v=>k v H) ⟨⟩):=by rw [ZA rfl rfl];rfl
@[go_sem ↓] theorem ZqM {op u x y u2} :Zt P ⟨d,.binOp op u x y u2,t,ps,af,g⟩ fr H k=pst ((Ym P op u (ev fr x) (ev fr y)).map .p) (Zv (fun v=>k v H) ⟨⟩):=by rw [ZA rfl rfl];rfl
@[go_sem ↓] theorem Zwe {op u x} :Zt P ⟨d,.unOp op u x,t,ps,af,g⟩ fr H k=pst ((aun op (ev fr x)).map .p) (Zv (fun v=>k v H) ⟨⟩):=by rw [ZA rfl rfl];rfl
def Zn6 (x y:Option PV):Option PV:=match x with | some z=>some z | none=>y
@[go_sem] theorem Zpo {z y} :Zn6 (some z) y=some z:=Eq.trans rfl rfl
@[go_sem] theorem ZpK {y} :Zn6 none y=y:=Eq.trans rfl rfl
@[go_sem ↓] theorem Zo1 {s u x} :Zt P ⟨d,.convert s u x,t,ps,af,g⟩ fr H k=pst ((Zn6 (Ky P H s u (ev fr x)) (Zf4 P s u (ev fr x))).map .p) (Zv (fun v=>k v H) ⟨⟩):=by
 rw [ZA rfl rfl];simp only [ZB,Xe]
 cases Ky P H s u (ev fr x)<;>rfl
@[go_sem ↓] theorem ZiD {f cs es} :Zt P ⟨d,.makeFunc f (List.toArray cs) (List.toArray es),t,ps,af,g⟩ fr H k=k (.fn f (cs.map (ev fr)) (es.map (ev fr))) H:=by rw [ZA rfl rfl];rfl
@[go_sem ↓] theorem ZnY {u x lo hi mx} :Zt P ⟨d,.slice u x lo hi mx,t,ps,af,g⟩ fr H k=pst (Yp P H u fr (ev fr x) lo hi mx) (Zv (fun v=>k v H) ⟨⟩):=by rw [ZA rfl rfl];rfl
@[go_sem ↓] theorem Zf3 {s x f} :Zt P ⟨d,.fieldAddr s x f,t,ps,af,g⟩ fr H k=pst (V6 P H s f (ev fr x)) (Zv (fun v=>k v H) ⟨⟩):=by rw [ZA rfl rfl];rfl
@[go_sem ↓] theorem ZhD {u x i} :Zt P ⟨d,.indexAddr u x i,t,ps,af,g⟩ fr H k=pst (Vg P H u (evx fr x) (ev fr i)) (Zv (fun v=>k v H) ⟨⟩):=by rw [ZA rfl rfl];rfl
@[go_sem ↓] theorem Znl {u x i} :Zt P ⟨d,.index u x i,t,ps,af,g⟩ fr H k=pst (Zhn P u (ev fr x) (ev fr i)) (Zv (fun v=>k v H) ⟨⟩):=by rw [ZA rfl rfl];rfl
def axt (x:V) (i:Nat):Option V:=match x with | .tup vs=>vs[i]? | _=>none
@[go_sem] theorem ZyS {vs i} :axt (.tup vs) i=vs[i]? :=Eq.trans rfl rfl
@[go_sem ↓] theorem ZjM {x i} :Zt P ⟨d,.extract x i,t,ps,af,g⟩ fr H k=pst (axt (ev fr x) i) (Zv (fun v=>k v H) ⟨⟩):=by
 rw [ZA rfl rfl];simp only [ZB,Xe]
 cases ev fr x<;>rfl
@[go_sem ↓] theorem Zns {u l} :Zt P ⟨d,.build u (List.toArray l),t,ps,af,g⟩ fr H k=pst (ZbS P H u (l.map fun x=>(x.1,ev fr x.2))) (Zv (fun v=>k v H) ⟨⟩):=by rw [ZA rfl rfl];rfl
@[go_sem ↓] theorem Zs9 {x u} :Zt P ⟨d,.call ⟨.builtin .len,#[x],#[u]⟩,t,ps,af,g⟩ fr H k=pst ((Zqz P H u (ev fr x)).map .p) (Zv (fun v=>k v H) ⟨⟩):=by rw [ZA rfl rfl];rfl
@[go_sem ↓] theorem Zq5 {x y us} :Zt P ⟨d,.call ⟨.builtin .max,#[x,y],us⟩,t,ps,af,g⟩ fr H k=pst ((Zjy false [ev fr x,ev fr y]).map .p) (Zv (fun v=>k v H) ⟨⟩):=by
 rw [ZA rfl rfl];simp only [ZB,Xe,Zen];rfl
@[go_sem ↓] theorem ZmL {u} :Zt P ⟨d,.alloc u,t,ps,af,g⟩ fr H k=mst ((ZK P u).map fun zs=>(.ptr H.length 0,H++ [.cells (zs.map .p)])) (Zv k ⟨⟩):=by rw [XM rfl rfl];rfl
@[go_sem ↓] theorem ZsM {u x} :Zt P ⟨d,.box u x,t,ps,af,g⟩ fr H k=mst ((vc H (ev fr x)).map fun cs=>(.ptr H.length 0,H++ [.cells cs])) (Zv k ⟨⟩):=by rw [XM rfl rfl];rfl
def ZBr (H:List Obj) (n:Option Nat) (a:V) (cs:Option (List V)):Option (List Obj):=n.bind fun n=>cs.bind fun cs=>U3 H n a cs
@[go_sem] theorem Zua {n a cs} :ZBr H (some n) a (some cs)=U3 H n a cs:=Eq.trans rfl rfl
@[go_sem ↓] theorem Znq {u x y} :Zt P ⟨d,.store u x y,t,ps,af,g⟩ fr H k=hst (ZBr H (tsz P u) (ev fr x) (vc H (ev fr y))) (Zv (k .junk) ⟨⟩):=by
 rw [XM rfl rfl];simp only [W5,ZBr]
 cases tsz P u<;>cases vc H (ev fr y)<;>simp [hst,mst,Zv]
 cases U3 H _ (ev fr x) _<;>rfl
@[go_sem ↓] theorem ZfL {u n l} :Zt P ⟨d,.buildSlice u n (List.toArray l),t,ps,af,g⟩ fr H k=mst (W5 P (.buildSlice u n (List.toArray l)) fr H) (Zv k ⟨⟩):=by rw [XM rfl rfl];rfl
@[go_sem ↓] theorem Zkz {u} :Zt P ⟨d,.makeMap u none,t,ps,af,g⟩ fr H k=k (.mp H.length) (H++ [.map []]):=by rw [XM rfl rfl];rfl
@[go_sem ↓] theorem Zlw {u x y ok} :Zt P ⟨d,.lookup u x y ok,t,ps,af,g⟩ fr H k=mst (ZaI P H u (ev fr x) (ev fr y) ok) (Zv k ⟨⟩):=by rw [XM rfl rfl];rfl
@[go_sem ↓] theorem Zpz {u x y z} :Zt P ⟨d,.mapUpdate u x y z,t,ps,af,g⟩ fr H k=mst (Zb2 P H u (ev fr x) (ev fr y) (ev fr z)) (Zv k ⟨⟩):=by rw [XM rfl rfl];rfl
@[go_sem ↓] theorem Zgh {u x y} :Zt P ⟨d,.makeSlice u x y,t,ps,af,g⟩ fr H k=mst (W5 P (.makeSlice u x y) fr H) (Zv k ⟨⟩):=by rw [XM rfl rfl];rfl
@[go_sem ↓] theorem Zl5 {x y u u2} :Zt P ⟨d,.call ⟨.builtin .append,#[x,y],#[u,u2]⟩,t,ps,af,g⟩ fr H k=mst (Uh P H u u2 (ev fr x) (ev fr y)) (Zv k ⟨⟩):=by rw [XM rfl rfl];rfl
@[go_sem ↓] theorem ZpP {f azs ts} :Zt P ⟨d,.call ⟨.value f,List.toArray azs,ts⟩,t,ps,af,g⟩ fr H k=Zcf P (ev fr f) (azs.map (ev fr)) H (Zv k ⟨⟩):=Eq.trans rfl rfl
@[go_sem ↓] theorem ZvN {f fs cs azs} :Zcf P (.fn (.func f) fs cs) azs H k=ACalls P f (fs++azs++cs) H k:=Eq.trans rfl rfl
@[go_sem ↓] theorem Ztx {f azs} :Zcf P (.p (.fn f)) azs H k=ACalls P f azs H k:=Eq.trans rfl rfl
theorem ZcR {f f' azs as'} (h:f=f') (h2:azs=as'):Zcf P f azs H k=Zcf P f' as' H k:=by rw [h,h2]
theorem ZbX {f azs as' H'} (h2:azs=as') (h3:H=H'):ACalls P f azs H k=ACalls P f as' H' k:=by rw [h2,h3]
theorem ZcX {x x' A B} (h:x=x'):Vq x A B=Vq x' A B:=by rw [h]
theorem Zbr {x x' b A B} (h:x=x'):Z3 x b A B=Z3 x' b A B:=by rw [h]
@[go_sem ↓, go_sem] theorem ZoW {A:Prop} {t B'} :Vq (.p (.bool true)) (Zv A t) B'=A:=by simp [Vq,Zv]
@[go_sem ↓, go_sem] theorem ZnO {B:Prop} {t B'} :Vq (.p (.bool false)) B' (Zv B t)=B:=by simp [Vq,Zv]
@[go_sem ↓, go_sem] theorem ZtK {A:Prop} {t B} :Z3 (.p (.bool true)) true (Zv A t) B=A:=by simp [Z3,Zv]
@[go_sem ↓, go_sem] theorem ZsQ {B:Prop} {t A} :Z3 (.p (.bool true)) false A (Zv B t)=B:=by simp [Z3,Zv]
@[go_sem ↓, go_sem] theorem Zt6 {B:Prop} {t A} :Z3 (.p (.bool false)) true A (Zv B t)=B:=by simp [Z3,Zv]
@[go_sem ↓, go_sem] theorem Zto {A:Prop} {t B} :Z3 (.p (.bool false)) false (Zv A t) B=A:=by simp [Z3,Zv]
@[go_sem ↓, go_sem] theorem Znv {b} {B:Prop} {t A} :Z3 (.tup []) b A (Zv B t)=B:=by simp [Z3,Zv]
theorem Z8 {c:Bool} {A B:Prop} {t t'} (h1:c=true->A) (h2:c=false->B):Vq (.p (.bool c)) (Zv A t) (Zv B t'):=⟨h1,h2⟩
theorem ZP {c:Bool} {A B:Prop} {t t'} (h1:c=true->A) (h2:c=false->B):Z3 (.p (.bool c)) true (Zv A t) (Zv B t'):=⟨h1,fun h=>h2 (by simpa using h)⟩
theorem ZQ {c:Bool} {A B:Prop} {t t'} (h1:c=true->B) (h2:c=false->A):Z3 (.p (.bool c)) false (Zv A t) (Zv B t'):=⟨h2,fun h=>h1 (by simpa using h)⟩
class Dc (c:Bool) (p q:outParam Prop):Prop where
 t:c=true->p
 f:c=false->q
instance dcD {p : Prop} [Decidable p] : Dc (decide p) p (¬p) := ⟨of_decide_eq_true, of_decide_eq_false⟩
instance (priority := low) dcB {c : Bool} : Dc c (c = true) (c = false) := ⟨id, id⟩
theorem cD {c:Bool} {A B p q:Prop} {t t'} [d:Dc c p q] (h1:p->A) (h2:q->B):Vq (.p (.bool c)) (Zv A t) (Zv B t'):=Z8 (fun h=>h1 (d.t h)) (fun h=>h2 (d.f h))
theorem gT {c:Bool} {A B p q:Prop} {t t'} [d:Dc c p q] (h1:p->A) (h2:q->B):Z3 (.p (.bool c)) true (Zv A t) (Zv B t'):=ZP (fun h=>h1 (d.t h)) (fun h=>h2 (d.f h))
theorem gF {c:Bool} {A B p q:Prop} {t t'} [d:Dc c p q] (h1:p->B) (h2:q->A):Z3 (.p (.bool c)) false (Zv A t) (Zv B t'):=ZQ (fun h=>h1 (d.t h)) (fun h=>h2 (d.f h))
@[go_sem] theorem Zyn {p:Prop} [Decidable p]:(!decide p)=decide (¬p):=by simp
end ops
attribute [congr] Zfz ZcH ZcR ZbX ZcX Zbr
section vals
variable {P : Program} {H : List Obj} {k : IntKind} {t u : TypeId}
@[go_sem] theorem Zxd {a b} :Ym P .add t (.p (.int k a)) (.p (.int k b))=some (.int k (k.wrap (a+b))):=by simp [Ym,J2]
@[go_sem] theorem ZvZ {a b} :Ym P .sub t (.p (.int k a)) (.p (.int k b))=some (.int k (k.wrap (a-b))):=by simp [Ym,J2]
@[go_sem] theorem Zwc {a b} :Ym P .mul t (.p (.int k a)) (.p (.int k b))=some (.int k (k.wrap (a*b))):=by simp [Ym,J2]
@[go_sem] theorem Zwy {a b} (h:b≠0):Ym P .quo t (.p (.int k a)) (.p (.int k b))=some (.int k (k.wrap (a.tdiv b))):=by simp [Ym,J2,h]
@[go_sem] theorem ZvO {a b} (h:b≠0):Ym P .rem t (.p (.int k a)) (.p (.int k b))=some (.int k (a.tmod b)):=by simp [Ym,J2,h]
@[go_sem] theorem Zk6 {a b} :Ym P .and t (.p (.int k a)) (.p (.int k b))=some (.int k (k.wrap ((BitVec.ofInt k.bits a&&&BitVec.ofInt k.bits b).toNat:Int))):=by simp [Ym,J2]
@[go_sem] theorem ZgN {a b} :Ym P .or t (.p (.int k a)) (.p (.int k b))=some (.int k (k.wrap ((BitVec.ofInt k.bits a|||BitVec.ofInt k.bits b).toNat:Int))):=by simp [Ym,J2]
@[go_sem] theorem ZnB {a b} :Ym P .andNot t (.p (.int k a)) (.p (.int k b))=some (.int k (k.wrap ((BitVec.ofInt k.bits a&&& ~~~(BitVec.ofInt k.bits b)).toNat:Int))):=by simp [Ym,J2]
@[go_sem] theorem ZwF {a b} :Ym P .eql t (.p (.int k a)) (.p (.int k b))=some (.bool (decide (a=b))):=by simp [Ym,J2]
@[go_sem] theorem ZwE {a b} :Ym P .neq t (.p (.int k a)) (.p (.int k b))=some (.bool (decide (¬a=b))):=by simp [Ym,J2]
@[go_sem] theorem Zxj {a b} :Ym P .lss t (.p (.int k a)) (.p (.int k b))=some (.bool (decide (a<b))):=by simp [Ym,J2]
@[go_sem] theorem Zxe {a b} :Ym P .leq t (.p (.int k a)) (.p (.int k b))=some (.bool (decide (a<=b))):=by simp [Ym,J2]
@[go_sem] theorem ZxN {a b} :Ym P .gtr t (.p (.int k a)) (.p (.int k b))=some (.bool (decide (b<a))):=by simp [Ym,J2]
@[go_sem] theorem ZvA {a b} :Ym P .geq t (.p (.int k a)) (.p (.int k b))=some (.bool (decide (b<=a))):=by simp [Ym,J2]
@[go_sem] theorem Zjt {a b k'} (h:0<=b):Ym P .shl t (.p (.int k a)) (.p (.int k' b))=some (.int k (k.wrap (a*2^(min b.toNat k.bits)))):=by simp [Ym,J2,show ¬b<0 by omega]
@[go_sem] theorem ZiW {a b k'} (h:0<=b):Ym P .shr t (.p (.int k a)) (.p (.int k' b))=some (.int k (a.fdiv (2^(min b.toNat k.bits)))):=by simp [Ym,J2,show ¬b<0 by omega]
@[go_sem] theorem ZxU {op a b} :Ym P op t (.p (.str a)) (.p (.str b))=Zi0 op a b:=Eq.trans rfl rfl
@[go_sem] theorem Zwf {a b} :Zi0 .eql a b=some (.bool (decide (a=b))):=Eq.trans rfl rfl
@[go_sem] theorem Zwo {a b} :Zi0 .neq a b=some (.bool (decide (¬a=b))):=by simp [Zi0]
@[go_sem] theorem Zi1 {a b} (h:a.length+b.length<=9223372036854775807):Zi0 .add a b=some (.str (a++b)):=by simp [Zi0,h]
def ZBY (op:BinOp) (u:Option TypeDesc) (a b:Bool):Option PV:=match op,u with
  | .eql,some .bool=>some (.bool (a==b))
  | .neq,some .bool=>some (.bool (!(a==b)))
  | _,_=>none
end vals
attribute [irreducible] pst mst hst bst
end Go.AM
namespace Go.AM
open Go.RowKit
section vals
variable {P : Program} {H : List Obj} {k : IntKind} {t u : TypeId}
@[go_sem] theorem Zs8 {op a b} :Ym P op t (.p (.bool a)) (.p (.bool b))=ZBY op (P.underlying t) a b:=Eq.trans rfl rfl
@[go_sem] theorem Zv8 {a b} :ZBY .neq (some .bool) a b=some (.bool (!(a==b))):=Eq.trans rfl rfl
def ZyE (g:Bool) (op:BinOp) (r:Option Bool):Option PV:=if g then none else match op with
 | .eql=>r.map .bool
 | .neq=>r.map fun r=> .bool (!r)
 | _=>none
@[go_sem] theorem ZxV {op a b} :Ym P op t (.p (.agg a)) (.p (.agg b))=ZyE (P.eqGuardType P.depth t) op (UF P 9 t (.agg a) (.agg b)):=Eq.trans rfl rfl
@[go_sem] theorem ZxS {b} :ZyE false .eql (some b)=some (.bool b):=Eq.trans rfl rfl
@[go_sem] theorem Zvw {b} :ZyE false .neq (some b)=some (.bool (!b)):=Eq.trans rfl rfl
def ZiV (P:Program) (d:Nat) (t:TypeId) (D:Option TypeDesc) (x y:PV):Option Bool:=match D,x,y with
  | some .bool,.bool a,.bool b=>some (a==b)
  | some (.int _),.int k a,.int k' b=>if k=k' then some (decide (a=b)) else none
  | some .string,.str a,.str b=>some (decide (a=b))
  | some (.struct fs),.agg a,.agg b=>if P.stoodInHeld t then none else Zer (UF P d) P fs.toList a b
  | some (.array n e),.agg a,.agg b=>match tsz P e with | some m=>Zpn (UF P d e) P e m n 0 a b | none=>none
  | _,_,_=>none
@[go_sem] theorem Zra {d x y} :UF P (d+1) t x y=ZiV P d t (P.underlying t) x y:=Eq.trans rfl rfl
@[go_sem] theorem ZrF {d a b} :ZiV P d t (some .bool) (.bool a) (.bool b)=some (a==b):=Eq.trans rfl rfl
@[go_sem] theorem ZwD {d k0 a b} :ZiV P d t (some (.int k0)) (.int k a) (.int k b)=some (decide (a=b)):=by simp [ZiV]
theorem Vj {d fs a b} (h:P.stoodInHeld t=false):ZiV P d t (some (.struct fs)) (.agg a) (.agg b)=Zer (UF P d) P fs.toList a b:=by simp [ZiV,h]
def ZiM (x y:Option Bool):Option Bool:=x.bind fun p=>y.map fun q=>p&&q
@[go_sem] theorem Zuw {p q} :ZiM (some p) (some q)=some (p&&q):=Eq.trans rfl rfl
def eqP (f:PV->PV->Option Bool) (x y:Option PV):Option Bool:=x.bind fun x=>y.bind fun y=>f x y
@[go_sem] theorem Zw1 {f x y} :eqP f (some x) (some y)=f x y:=Eq.trans rfl rfl
@[go_sem] theorem ZaU {f a b} :Zer f P [] a b=some true:=Eq.trans rfl rfl
@[go_sem] theorem QY {f fi r a b} : Zer f P (fi :: r) a b = if fi.name = "_" then Zer f P r a b else ZiM (eqP (f fi.type) (apart P fi.type a fi.offset) (apart P fi.type b fi.offset)) (Zer f P r a b) := by
 simp only [Zer]
 split
 ·rfl
 ·cases apart P fi.type a fi.offset<;>cases apart P fi.type b fi.offset<;>simp [eqP,ZiM]
  rename_i x y
  cases f fi.type x y<;>cases Zer f P r a b<;>rfl
def ZC2 (g:Option Bool) (s:Option Nat) (cs:List PV) (off:Nat):Option PV:=match g,s with
 | some true,some n=>if off+n<=cs.length then some (.agg ((cs.drop off).take n)) else none
 | some false,_=>cs[off]?
 | _,_=>none
@[go_sem] theorem ZxO {cs off} :apart P t cs off=ZC2 (XJ P t) (tsz P t) cs off:=Eq.trans rfl rfl
@[go_sem] theorem ZxX {s cs off} :ZC2 (some false) s cs off=cs[off]? :=Eq.trans rfl rfl
def Zey (g:Option Bool) (s:Option Nat) (H:List Obj) (x:V):Option V:=match g,s with
 | some true,some n=>(Ww H x n).map mkA
 | some false,_=>match Ww H x 1 with
  | some (c::_)=>some c
  | _=>none
 | _,_=>none
def hdO (x:Option (List V)):Option V:=match x with | some (c::_)=>some c | _=>none
@[go_sem] theorem ZxE {c l} :hdO (some (c::l))=some c:=Eq.trans rfl rfl
@[go_sem] theorem Zwq {x} :UM P H t x=Zey (XJ P t) (tsz P t) H x:=Eq.trans rfl rfl
@[go_sem] theorem ZpM {s x} :Zey (some false) s H x=hdO (Ww H x 1):=by simp only [Zey,hdO]
@[go_sem] theorem ZpS {n x} :Zey (some true) (some n) H x=(Ww H x n).map mkA:=Eq.trans rfl rfl
@[go_sem] theorem ZsY {x j n} :Ww H (.lp x j) n=if j+n<=x.cells.length then some (((x.cells.drop j).take n).map .p) else none:=Eq.trans rfl rfl
def Zl8 (ob:Obj) (off n:Nat):Option (List V):=match ob with | .cells cs=>if off+n<=cs.length then some ((cs.drop off).take n) else none | _=>none
@[go_sem] theorem Zo6 {o off n} :Ww H (.ptr o off) n=Zl8 (oat H o) off n:=Eq.trans rfl rfl
@[go_sem] theorem Zk8 {cs off n} :Zl8 (.cells cs) off n=if off+n<=cs.length then some ((cs.drop off).take n) else none:=Eq.trans rfl rfl
def Zlb (ob:Obj) (i j tot n:Nat):Option (List V):=match ob with
 | .elems _ xs=>if xs.length=tot/\i<xs.length/\j+n<=(elt xs i).cells.length then some ((((elt xs i).cells.drop j).take n).map .p) else none
 | _=>none
@[go_sem] theorem ZpV {o i j tot n} :Ww H (.ep o i j tot) n=Zlb (oat H o) i j tot n:=Eq.trans rfl rfl
@[go_sem] theorem ZlM {S xs i j tot n} :Zlb (.elems S xs) i j tot n=if xs.length=tot/\i<xs.length/\j+n<=(elt xs i).cells.length then some ((((elt xs i).cells.drop j).take n).map .p) else none:=Eq.trans rfl rfl
@[go_sem] theorem Zsy {cs} :(PV.agg cs).cells=cs:=Eq.trans rfl rfl
@[go_sem] theorem ZsR {n} :(PV.int k n).cells= [.int k n]:=Eq.trans rfl rfl
@[go_sem] theorem Zpp {b} :(PV.bool b).cells= [.bool b]:=Eq.trans rfl rfl
@[go_sem] theorem Zsf {s} :(PV.str s).cells= [.str s]:=Eq.trans rfl rfl
@[go_sem] theorem ZpJ {c xs} :(PV.list c xs).cells= [.list c xs]:=Eq.trans rfl rfl
@[go_sem] theorem ZyY {n} :(PV.int k n).one=true:=Eq.trans rfl rfl
@[go_sem] theorem Zwm {b} :(PV.bool b).one=true:=Eq.trans rfl rfl
@[go_sem] theorem Zzm {s} :(PV.str s).one=true:=Eq.trans rfl rfl
@[go_sem] theorem ZxJ {c xs} :(PV.list c xs).one=true:=Eq.trans rfl rfl
@[go_sem] theorem ZC8 {cs} :mkA cs=match J6 cs with | some ps=> .p (.agg ps) | none=> .agg cs:=Eq.trans rfl rfl
@[go_sem] theorem ZxC : J6 []=some []:=Eq.trans rfl rfl
@[go_sem] theorem Zrz {x r} :J6 (.p x::r)=(J6 r).map (x:: ·):=by simp only [J6]
def ZaE (n:Option Nat) (a:Bool) (x:V):Option V:=match n with | some n=>if a then some (K1 n x) else none | none=>none
@[go_sem] theorem ZsK {s f x} :V6 P H s f x=ZaE (ZW P s f) (Ye H x) x:=Eq.trans rfl rfl
@[go_sem] theorem ZlD {n x} :ZaE (some n) true x=some (K1 n x):=Eq.trans rfl rfl
@[go_sem] theorem ZwY {n x j} :K1 n (.lp x j)= .lp x (j+n):=Eq.trans rfl rfl
@[go_sem] theorem ZsS {n o off} :K1 n (.ptr o off)= .ptr o (off+n):=Eq.trans rfl rfl
@[go_sem] theorem Zxu {n o i j tot} :K1 n (.ep o i j tot)= .ep o i (j+n) tot:=Eq.trans rfl rfl
def Zhz (ob:Obj):Bool:=match ob with | .cells _=>true | _=>false
@[go_sem] theorem Zkh {cs} :Zhz (.cells cs)=true:=Eq.trans rfl rfl
def Zh3 (ob:Obj) (tot:Nat):Bool:=match ob with | .elems _ xs=>decide (xs.length=tot) | _=>false
@[go_sem] theorem ZkM {S xs tot} :Zh3 (.elems S xs) tot=decide (xs.length=tot):=Eq.trans rfl rfl
def Zmk (ob:Obj) (tot:Nat):Bool:=match ob with | .elems _ xs=>decide (xs.length=tot) | .cells _=>true | _=>false
@[go_sem] theorem Zop {S xs tot} :Zmk (.elems S xs) tot=decide (xs.length=tot):=Eq.trans rfl rfl
@[go_sem] theorem Zoq {cs tot} :Zmk (.cells cs) tot=true:=Eq.trans rfl rfl
@[go_sem] theorem Zvx {x j} :Ye H (.lp x j)=true:=Eq.trans rfl rfl
@[go_sem] theorem Zpi {o off} :Ye H (.ptr o off)=Zhz (oat H o):=Eq.trans rfl rfl
@[go_sem] theorem Zwk {o i j tot} :Ye H (.ep o i j tot)=Zh3 (oat H o) tot:=Eq.trans rfl rfl
def Wn (e:Option (Option Nat×Nat)) (H:List Obj) (x i:V):Option V:=match e,i with
 | some (none,S),.p (.int _ n)=>match x with
  | .p (.list _ xs)=>if 0<=n/\n<xs.length then (if (elt xs n.toNat).cells.length=S then some (.lp (elt xs n.toNat) 0) else none) else none
  | .sl o off len tot=>match oat H o with
   | .elems S' xs=>if xs.length=tot/\S'=S then (if 0<=n/\n<len then some (.ep o (off+n.toNat) 0 tot) else none) else none
   | .cells _=>if S=1/\off=0/\len=tot/\0<=n/\n<len then some (.ptr o n.toNat) else none
   | _=>none
  | _=>none
 | some (some k,S),.p (.int _ n)=>if 0<=n/\n<k then (if Ye H x then some (K1 (n.toNat*S) x) else none) else none
 | _,_=>none
@[go_sem] theorem ZqF {x i} :Vg P H t x i=Wn (Y1 P t) H x i:=Eq.trans rfl rfl
theorem Zbv {S c xs n} (h0:0<=n) (h1:n<(List.length xs:Int)):Wn (some (none,S)) H (.p (.list c xs)) (.p (.int k n))=if (elt xs n.toNat).cells.length=S then some (.lp (elt xs n.toNat) 0) else none:=by
 simp only [Wn];rw [if_pos ⟨h0,h1⟩]
def nth {α:Type} [Inhabited α] (l:List α) (i:Nat):α:=l.getD i default
theorem Z2 {α:Type} [Inhabited α] {f:α->PV} {l:List α} {i:Nat} (h:i<l.length):elt (l.map f) i=f (nth l i):=by
 simp [elt,nth,h]
theorem Zd {α:Type} [Inhabited α] {l:List α} {i:Nat} (h:i<l.length):nth l i=l[i]:=by simp [nth,h]
@[go_sem] theorem ZnL {α:Type} [Inhabited α] {f:α->PV} {l:List α} {S c n} (h0:0<=n) (h1:n<(l.length:Int)) :
  Wn (some (none,S)) H (.p (.list c (l.map f))) (.p (.int k n))=if (f (nth l n.toNat)).cells.length=S then some (.lp (f (nth l n.toNat)) 0) else none:=by
 rw [Zbv h0 (by simpa using h1),Z2 (by omega)]
def Zb3 (ob:Obj) (S o off len tot:Nat) (n:Int):Option V:=match ob with
 | .elems S' xs=>if xs.length=tot/\S'=S then (if 0<=n/\n<len then some (.ep o (off+n.toNat) 0 tot) else none) else none
 | .cells _=>if S=1/\off=0/\len=tot/\0<=n/\n<len then some (.ptr o n.toNat) else none
 | _=>none
@[go_sem] theorem ZoV {S o off len tot n} :Wn (some (none,S)) H (.sl o off len tot) (.p (.int k n))=Zb3 (oat H o) S o off len tot n:=Eq.trans rfl rfl
@[go_sem] theorem ZsI {S xs o off} {len tot:Nat} {n:Int} (h0:0<=n) (h1:n<(len:Int)) (ht:xs.length=tot):Zb3 (.elems S xs) S o off len tot n=some (.ep o (off+n.toNat) 0 tot):=by
 simp only [Zb3];simp [ht,h0,h1]
@[go_sem] theorem ZlB {cs o} {len:Nat} {n:Int} (h0:0<=n) (h1:n<(len:Int)):Zb3 (.cells cs) 1 o 0 len len n=some (.ptr o n.toNat):=by
 simp only [Zb3];simp [h0,h1]
@[go_sem] theorem Znt {n} {m S:Nat} {x} (h0:0<=n) (h1:n<(m:Int)):Wn (some (some m,S)) H x (.p (.int k n))=ZaE (some (n.toNat*S)) (Ye H x) x:=by
 simp only [Wn,ZaE];rw [if_pos ⟨h0,h1⟩]
def Zkm (H:List Obj) (D:Option TypeDesc) (x:V):Option PV:=match D,x with
 | some (.slice _),.p (.list _ xs)=>some (.int .i64 xs.length)
 | some (.slice _),.sl o _ len tot=>match oat H o with
  | .elems _ xs=>if xs.length=tot then some (.int .i64 len) else none
  | _=>none
 | some .string,.p (.str s)=>some (.int .i64 s.length)
 | some (.array n _),_=>some (.int .i64 n)
 | _,_=>none
@[go_sem] theorem ZAS {x} :Zqz P H t x=Zkm H (P.underlying t) x:=Eq.trans rfl rfl
@[go_sem] theorem Zpe {e c xs} :Zkm H (some (.slice e)) (.p (.list c xs))=some (.int .i64 (List.length xs)):=Eq.trans rfl rfl
def ZDg (ob:Obj) (len tot:Nat):Option PV:=match ob with | .elems _ xs=>if xs.length=tot then some (.int .i64 len) else none | _=>none
@[go_sem] theorem ZxM {e o off len tot} :Zkm H (some (.slice e)) (.sl o off len tot)=ZDg (oat H o) len tot:=Eq.trans rfl rfl
@[go_sem] theorem Zph {S xs len tot} :ZDg (.elems S xs) len tot=if xs.length=tot then some (.int .i64 len) else none:=Eq.trans rfl rfl
@[go_sem] theorem ZqL {s} :Zkm H (some .string) (.p (.str s))=some (.int .i64 (List.length s)):=Eq.trans rfl rfl
@[go_sem] theorem ZBb {b} :aun .not (.p (.bool b))=some (.bool (!b)):=Eq.trans rfl rfl
@[go_sem] theorem ZAQ {n} :aun .neg (.p (.int k n))=some (.int k (k.wrap (0-n))):=Eq.trans rfl rfl
def Zmh (D E:Option TypeDesc) (x:V):Option PV:=match D,E,x with
 | some _,some (.int k),.p (.int _ n)=>some (.int k (k.wrap n))
 | some (.int _),some .string,.p (.int _ n)=>if 0<=n/\n<128 then some (.str [UInt8.ofNat n.toNat]) else none
 | some .string,some .string,.p (.str b)=>some (.str b)
 | _,_,_=>none
@[go_sem] theorem ZvJ {s x} :Zf4 P s t x=Zmh (P.underlying s) (P.underlying t) x:=Eq.trans rfl rfl
@[go_sem] theorem ZpF {D k' n} :Zmh (some D) (some (.int k)) (.p (.int k' n))=some (.int k (k.wrap n)):=by cases D<;>rfl
def Zc4 (E:Option TypeDesc) (H:List Obj) (x:V):Option PV:=match E,x with
  | some (.int .u8),.p (.list _ xs)=>(Xq xs).map .str
  | some (.int .u8),.sl o off len tot=>match oat H o with
   | .elems _ xs=>if xs.length=tot/\off+len<=tot then (Xq ((xs.take (off+len)).drop off)).map .str else none
   | _=>none
  | _,_=>none
def Zc0 (P:Program) (H:List Obj) (D E:Option TypeDesc) (x:V):Option PV:=match D,E with
 | some (.slice e),some .string=>Zc4 (P.underlying e) H x
 | _,_=>none
@[go_sem] theorem Zt8 {s x} :Ky P H s t x=Zc0 P H (P.underlying s) (P.underlying t) x:=Eq.trans rfl rfl
@[go_sem] theorem ZmS {E x} :Zc0 P H (some (.int k)) E x=none:=Eq.trans rfl rfl
@[go_sem] theorem ZjP {e x} :Zc0 P H (some (.slice e)) (some .string) x=Zc4 (P.underlying e) H x:=Eq.trans rfl rfl
def Zl1 (ob:Obj) (off len tot:Nat):Option PV:=match ob with | .elems _ xs=>if xs.length=tot/\off+len<=tot then (Xq ((xs.take (off+len)).drop off)).map .str else none | _=>none
@[go_sem] theorem Zpk {o off len tot} :Zc4 (some (.int .u8)) H (.sl o off len tot)=Zl1 (oat H o) off len tot:=Eq.trans rfl rfl
@[go_sem] theorem Zl2 {S xs off len tot} :Zl1 (.elems S xs) off len tot=if xs.length=tot/\off+len<=tot then (Xq ((xs.take (off+len)).drop off)).map .str else none:=Eq.trans rfl rfl
@[go_sem] theorem ZoF : Xq []=some []:=Eq.trans rfl rfl
@[go_sem] theorem Zll {n r} :Xq (.int .u8 n::r)=(Xq r).map (UInt8.ofNat n.toNat:: ·):=by simp [Xq]
@[go_sem] theorem Zyj {a b:Int} (h:0<=a):a.tdiv b=a / b:=Int.tdiv_eq_ediv_of_nonneg h
@[go_sem] theorem Zy7 {a b:Int} (h:0<=a):a.tmod b=a%b:=Int.tmod_eq_emod_of_nonneg h
@[go_sem] theorem ZC4 {cs} :vc H (.p (.agg cs))=if cs.all (·.one)=true then some (cs.map .p) else none:=by simp only [vc]
@[go_sem] theorem ZA3 {cs} :vc H (.agg cs)=if cs.all (V.one H)=true then some cs else none:=by simp only [vc]
@[go_sem] theorem ZDv {n} :vc H (.p (.int k n))=some [.p (.int k n)]:=Eq.trans rfl rfl
@[go_sem] theorem ZAn {n} :vc H (.p (.bool n))=some [.p (.bool n)]:=Eq.trans rfl rfl
@[go_sem] theorem ZDj {n} :vc H (.p (.str n))=some [.p (.str n)]:=Eq.trans rfl rfl
@[go_sem] theorem Zz7 {c xs} :vc H (.p (.list c xs))=some [.p (.list c xs)]:=Eq.trans rfl rfl
@[go_sem] theorem ZD4 {o off len tot} :vc H (.sl o off len tot)=if Zmk (oat H o) tot=true then some [.sl o off len tot] else none:=Eq.trans rfl rfl
@[go_sem] theorem ZDI {x} :V.one H (.p x)=x.one:=Eq.trans rfl rfl
@[go_sem] theorem Zzq {o} :V.one H (.mp o)=ZjT (oat H o):=Eq.trans rfl rfl
@[go_sem] theorem ZEc {o} :vc H (.mp o)=if ZjT (oat H o)=true then some [.mp o] else none:=Eq.trans rfl rfl
@[go_sem] theorem Ztm {es} :ZjT (.map es)=true:=Eq.trans rfl rfl
@[go_sem] theorem Zyz {α:Type} {n} {cs:List α} :spl ([]:List α) n cs= []:=by cases cs<;>cases n<;>simp [spl]
@[go_sem] theorem ZvC {α:Type} {x c:α} {l cs} :spl (x::l) 0 (c::cs)=c::spl l 0 cs:=by simp [spl]
@[go_sem] theorem Ztf {α:Type} {x:α} {l} :spl (x::l) 0 []=x::l:=by simp [spl]
@[go_sem] theorem ZwI {α:Type} {x:α} {l cs n} :spl (x::l) (n+1) cs=x::spl l n cs:=by simp [spl]
def ZlP (H:List Obj) (o:Nat) (ob:Obj) (off n:Nat) (cs:List V):Option (List Obj):=match ob with
 | .cells old=>if off+n<=old.length then some (ost H o (.cells (spl old off cs))) else none
 | _=>none
@[go_sem] theorem ZoU {n o off cs} :U3 H n (.ptr o off) cs=if cs.length=n then ZlP H o (oat H o) off n cs else none:=Eq.trans rfl rfl
@[go_sem] theorem Zl4 {o old off n cs} :ZlP H o (.cells old) off n cs=if off+n<=old.length then some (ost H o (.cells (spl old off cs))) else none:=Eq.trans rfl rfl
def Kc (H:List Obj) (o:Nat) (ob:Obj) (i j tot n:Nat) (ps:Option (List PV)):Option (List Obj):=match ob,ps with
 | .elems S xs,some ps=>if xs.length=tot/\i<xs.length/\j+n<=(elt xs i).cells.length/\ps.all (·.one)=true/\(elt xs i).cells.all (·.one)=true then
   some (ost H o (.elems S (xs.set i (mkE (elt xs i) (spl (elt xs i).cells j ps))))) else none
 | _,_=>none
@[go_sem] theorem Zrd {n o i j tot cs} :U3 H n (.ep o i j tot) cs=if cs.length=n then Kc H o (oat H o) i j tot n (J6 cs) else none:=Eq.trans rfl rfl
@[go_sem] theorem Zpv {α:Type} [Inhabited α] {f:α->PV} {l:List α} {o S i j tot n ps} (ht:l.length=tot) (hi:i<l.length):Kc H o (.elems S (l.map f)) i j tot n (some ps) =
  if j+n<=(f (nth l i)).cells.length/\ps.all (·.one)=true/\(f (nth l i)).cells.all (·.one)=true then
   some (ost H o (.elems S ((l.map f).set i (mkE (f (nth l i)) (spl (f (nth l i)).cells j ps))))) else none:=by
 simp only [Kc,Z2 hi]
 have h1:(l.map f).length=tot:=by simpa using ht
 have h2:i<(l.map f).length:=by simpa using hi
 simp only [h1,h2,true_and];subst ht;simp [hi]
@[go_sem] theorem Zya {a cs} :mkE (.agg a) cs= .agg cs:=Eq.trans rfl rfl
@[go_sem] theorem Zz0 {n c l} :mkE (.int k n) (c::l)=c:=Eq.trans rfl rfl
@[go_sem] theorem ZsH {l} :ZbS P H t l=match ZK P t,tpl P t with
 | some zs,some pl=>(JO H pl (zs.map .p) l).map mkA
 | _,_=>none:=Eq.trans rfl rfl
@[go_sem] theorem Zqc {pl cs} :JO H pl cs []=some cs:=by simp [JO]
def ZlR (H:List Obj) (pl:Nat->Option (Nat×Nat)) (cs:List V) (r:List (Nat×V)) (q:Option (Nat×Nat)) (vs:Option (List V)):Option (List V):=match q,vs with
 | some (off,sz),some vs=>if vs.length=sz/\off+sz<=cs.length then JO H pl (spl cs off vs) r else none
 | _,_=>none
@[go_sem] theorem ZoR {pl cs i v r} :JO H pl cs ((i,v)::r)=ZlR H pl cs r (pl i) (vc H v):=Eq.trans rfl rfl
@[go_sem] theorem Zn3 {pl cs off sz vs r} :ZlR H pl cs r (some (off,sz)) (some vs)=if vs.length=sz/\off+sz<=cs.length then JO H pl (spl cs off vs) r else none:=Eq.trans rfl rfl
@[go_sem] theorem ZBF {l i} :plL l i=l[i]? :=Eq.trans rfl rfl
@[go_sem] theorem ZCR {n i} :plA n i=some (i*n,n):=Eq.trans rfl rfl
end vals
end Go.AM
namespace Go.AM
open Go.RowKit
section
variable {P : Program} {H : List Obj} {k : IntKind} {t u : TypeId} {fr : List V}
def ZmG (S:Option Nat) (H:List Obj) (n:Nat) (l:List (Nat×V)):Option (V×List Obj):=match S with
 | some S=>if n=l.length/\n*S<=16777216/\0<S then (J0 H S 0 l).map fun xs=>(.sl H.length 0 n n,H++ [.elems S xs]) else none
 | none=>none
@[go_sem] theorem Zvq {n l} :W5 P (.buildSlice t n (List.toArray l)) fr H=ZmG (QI P t) H n (l.map fun x=>(x.1,ev fr x.2)):=by
 simp only [W5,QI,ZmG]
 cases P.underlying t with
 | none=>rfl
 | some D =>
  cases D<;>try rfl
  rename_i e;simp only []
  cases (P.info? e).bind (·.zero) with
  | none=>rfl
  | some z =>
   simp only [Zm2]
   cases Y1 P t with
   | none=>rfl
   | some q=>obtain ⟨a,b⟩:=q;cases a<;>rfl
@[go_sem] theorem Zps {S n l} :ZmG (some S) H n l=if n=l.length/\n*S<=16777216/\0<S then (J0 H S 0 l).map fun xs=>(.sl H.length 0 n n,H++ [.elems S xs]) else none:=Eq.trans rfl rfl
@[go_sem] theorem ZwZ {S n} :J0 H S n []=some []:=by simp [J0]
@[go_sem] theorem ZqW {S n i x r} :J0 H S n ((i,.p x)::r)=if i=n then if x.cells.length=S/\x.cells.all (·.one)=true then (J0 H S (n+1) r).map (x:: ·) else none else none:=by simp only [J0,pvo]
@[go_sem] theorem ZzC {S n i f r} :J0 H S n ((i,.fn (.func f) [] [])::r)=if i=n then if 1=S then (J0 H S (n+1) r).map (.fn f:: ·) else none else none:=by simp [J0,pvo,PV.cells,PV.one]
def ZbZ (P:Program) (t:TypeId):Option (Nat×Nat):=match P.underlying t with
 | some (.slice e)=>match tsz P e,zval P e,(P.info? e).map (·.bytes) with
  | some S,some z,some by'=>if 0<S/\z.cells.length=S/\z.cells.all (·.one)=true/\by'≠0 then some (S,by') else none
  | _,_,_=>none
 | _=>none
theorem K8 {S by'} (h:ZbZ P t=some (S,by')): ∃e z,P.underlying t=some (.slice e)/\tsz P e=some S/\zval P e=some z/\(P.info? e).map (·.bytes)=some by'/\0<S/\z.cells.length=S/\z.cells.all (·.one)=true/\by'≠0:=by
 unfold ZbZ at h
 split at h
 ·rename_i e hu
  split at h
  ·rename_i S' z b h1 h2 h3
   split at h
   ·rename_i hc;simp at h;obtain ⟨rfl,rfl⟩:=h;exact ⟨e,z,hu,h1,h2,h3,hc⟩
   ·cases h
  ·cases h
 ·cases h
def Ys (D:Option TypeDesc) (H:List Obj) (y:V):Option (List PV):=match D,y with
 | some (.slice _),.p (.list _ ys)=>some ys
 | some (.slice _),.sl o off len tot=>match oat H o with
  | .elems _ xs=>if xs.length=tot/\off+len<=tot then some ((xs.take (off+len)).drop off) else none
  | _=>none
 | some .string,.p (.str s)=>some (s.map fun b=> .int .u8 b.toNat)
 | _,_=>none
def ZsX (ob:Obj) (off len tot:Nat):Option (List PV):=match ob with | .elems _ xs=>if xs.length=tot/\off+len<=tot then some ((xs.take (off+len)).drop off) else none | _=>none
@[go_sem] theorem Zo4 {e c ys} :Ys (some (.slice e)) H (.p (.list c ys))=some ys:=Eq.trans rfl rfl
@[go_sem] theorem Zwu {e o off len tot} :Ys (some (.slice e)) H (.sl o off len tot)=ZsX (oat H o) off len tot:=Eq.trans rfl rfl
theorem Zeq {S xs n} (h:List.length xs=n):ZsX (.elems S xs) 0 n n=some xs:=by subst h;simp [ZsX]
def ZpA (H:List Obj) (F:Option (Nat×Nat)) (ys:Option (List PV)):Option (V×List Obj):=match F,ys with
 | some (S,by'),some ys=>if okE S ys=true/\ys.length*by'<=140737488355328/\ys.length<=140737488355328 then some (.sl H.length 0 ys.length ys.length,H++ [.elems S ys]) else none
 | _,_=>none
def JS (H:List Obj) (F:Option (Nat×Nat)) (ob:Obj) (o n:Nat) (ys:Option (List PV)):Option (V×List Obj):=match F,ob,ys with
 | some (S,by'),.elems S' xs,some ys=>if S'=S/\xs.length=n/\okE S ys=true/\(n+ys.length)*by'<=140737488355328/\n+ys.length<=140737488355328 then
   some (.sl o 0 (n+ys.length) (n+ys.length),ost H o (.elems S (xs++ys))) else none
 | _,_,_=>none
theorem ZcL {z x y ys e S by'} (h1:P.underlying t=some (.slice e)) (h2:tsz P e=some S) (h3:zval P e=some z) (h4:(P.info? e).map (·.bytes)=some by') (h5:ZiE P H u y=some ys) (h6:0<S/\z.cells.length=S/\z.cells.all (·.one)=true/\by'≠0) :
  Uh P H t u x y=if okE S ys=true then (match x with
    | .p (.list cl xs)=>if cl=true/\okE S xs=true/\(xs= []\/0<ys.length)/\(xs.length+ys.length)*by'<=140737488355328/\xs.length+ys.length<=140737488355328 then
      some (.sl H.length 0 (xs.length+ys.length) (xs.length+ys.length),H++ [.elems S (xs++ys)]) else none
    | .sl o off len tot=>match oat H o with
     | .elems S' xs=>if S'=S/\off=0/\len=tot/\xs.length=tot/\(tot+ys.length)*by'<=140737488355328/\tot+ys.length<=140737488355328 then
       some (.sl o 0 (tot+ys.length) (tot+ys.length),ost H o (.elems S (xs++ys))) else none
     | _=>none
    | _=>none) else none:=by
 simp only [Uh,h1,h2,h3,h4,h5]
 by_cases hc:okE S ys=true
 ·rw [if_pos hc,if_pos ⟨h6.1,h6.2.1,h6.2.2.1,h6.2.2.2,hc⟩]
  cases x with
  | p x=>cases x<;>rfl
  | _=>rfl
 ·rw [if_neg hc,if_neg (fun h=>hc h.2.2.2.2)]
theorem ZeK {y F} (hF:ZbZ P t=some F):Uh P H t u (.p (.list true [])) y=ZpA H (some F) (Ys (P.underlying u) H y):=by
 obtain ⟨S,by'⟩:=F;obtain ⟨e,z,h1,h2,h3,h4,h6⟩:=K8 hF;have e1:Ys (P.underlying u) H y=ZiE P H u y:=Eq.trans rfl rfl;rw [e1]
 cases h5:ZiE P H u y with
 | none=>simp [Uh,h1,h2,h3,h4,h5,ZpA]
 | some ys =>
  rw [ZcL h1 h2 h3 h4 h5 h6];simp only [ZpA,okE]
  by_cases hc:ys.all (ZrZ S)=true
  ·simp [hc]
  ·simp [hc]
theorem Xz {y F o n} (hF:ZbZ P t=some F):Uh P H t u (.sl o 0 n n) y=JS H (some F) (oat H o) o n (Ys (P.underlying u) H y):=by
 obtain ⟨S,by'⟩:=F;obtain ⟨e,z,h1,h2,h3,h4,h6⟩:=K8 hF;have e1:Ys (P.underlying u) H y=ZiE P H u y:=Eq.trans rfl rfl;rw [e1]
 cases h5:ZiE P H u y with
 | none =>
  simp only [Uh,h1,h2,h3,h4,h5,JS]
  cases oat H o<;>rfl
 | some ys =>
  rw [ZcL h1 h2 h3 h4 h5 h6];simp only [JS]
  cases oat H o with
  | elems S' xs =>
   by_cases hc:okE S ys=true
   ·simp [hc]
   ·simp [hc]
  | cells cs=>simp
  | map es=>simp
  | bld T E r bs=>simp
  | dead=>simp
@[go_sem] theorem ZrT {S b ys} :ZpA H (some (S,b)) (some ys)=if okE S ys=true/\ys.length*b<=140737488355328/\ys.length<=140737488355328 then some (.sl H.length 0 ys.length ys.length,H++ [.elems S ys]) else none:=Eq.trans rfl rfl
theorem Zcs {S b xs ys o n} (hn:xs.length=n) (hb:(n+ys.length)*b<=140737488355328) (hb2:n+ys.length<=140737488355328):JS H (some (S,b)) (.elems S xs) o n (some ys)=if okE S ys=true then some (.sl o 0 (n+ys.length) (n+ys.length),ost H o (.elems S (xs++ys))) else none:=by
 simp only [JS]
 by_cases hc:okE S ys=true
 ·rw [if_pos ⟨trivial,hn,hc,hb,hb2⟩,if_pos hc]
 ·rw [if_neg (fun h=>hc h.2.2.1),if_neg hc]
@[go_sem] theorem ZxD {α:Type} {S} {f:α->PV} {l:List α} :ZsX (.elems S (l.map f)) 0 l.length l.length=some (l.map f):=Zeq (by simp)
@[go_sem] theorem Zvs {S x} :ZsX (.elems S [x]) 0 1 1=some [x]:=Zeq (by simp)
@[go_sem] theorem Zrw {α:Type} {S b o x} {f:α->PV} {l:List α} (hb:(l.length+1)*b<=140737488355328) (hb2:l.length+1<=140737488355328):JS H (some (S,b)) (.elems S (l.map f)) o l.length (some [x])=if okE S [x]=true then some (.sl o 0 (l.length+1) (l.length+1),ost H o (.elems S (l.map f++ [x]))) else none :=
 Zcs (by simp) (by simpa using hb) (by simpa using hb2)
@[go_sem] theorem Ztc {α β:Type} {S b o} {f:α->PV} {g:β->PV} {l:List α} {m:List β} (hb:(l.length+m.length)*b<=140737488355328) (hb2:l.length+m.length<=140737488355328):JS H (some (S,b)) (.elems S (l.map f)) o l.length (some (m.map g))=if okE S (m.map g)=true then some (.sl o 0 (l.length+m.length) (l.length+m.length),ost H o (.elems S (l.map f++m.map g))) else none:=by
 have:= @Zcs H S b (l.map f) (m.map g) o l.length (by simp) (by simpa using hb) (by simpa using hb2);simpa using this
@[go_sem] theorem ZAH {S} :okE S []=true:=Eq.trans rfl rfl
@[go_sem] theorem Zvz {S x l} :okE S (x::l)=((x.cells.length==S)&&x.cells.all (·.one)&&okE S l):=by simp [okE,ZrZ]
theorem JJ {α:Type} {S} {f:α->PV} {l:List α} (h: ∀x,ZrZ S (f x)=true):okE S (l.map f)=true:=by simp [okE];intro x _;exact h x
def Zkk (P:Program) (t:TypeId):Option (Nat×Nat×PV):=match P.underlying t with
  | some (.slice e)=>match tsz P e,zval P e,(P.info? e).map (·.bytes) with
   | some S,some z,some by'=>if z.cells.all (·.one)=true/\z.cells.length=S/\0<S then some (S,by',z) else none
   | _,_,_=>none
  | _=>none
end
def YH : Nat->List Nat->List V->List V
 | _,_,[]=> []
 | i,[],_::l=> .junk::YH (i+1) [] l
 | i,k::ks,x::l=>if i=k then x::YH (i+1) ks l else .junk::YH (i+1) (k::ks) l
def Zcw : List (Nat×V)->List V->List V
 | [],fr=>fr
 | (i,v)::r,fr=>Zcw r (pt fr i v)
@[go_sem] theorem ZsC {i ks} :YH i ks []= []:=by cases ks<;>simp [YH]
@[go_sem] theorem Zpc {i x l} :YH i [] (x::l)= .junk::YH (i+1) [] l:=by simp [YH]
@[go_sem] theorem Zo0 {i k ks x l} :YH i (k::ks) (x::l)=if i=k then x::YH (i+1) ks l else .junk::YH (i+1) (k::ks) l:=by simp [YH]
@[go_sem] theorem ZEx : ((0:Nat):Int)=0:=Eq.trans rfl rfl
@[go_sem] theorem ZD5 {n:Nat} :((n+1:Nat):Int)=(n:Int)+1:=Eq.trans rfl rfl
@[go_sem] theorem ZCr {n:Nat} :((n:Int)).toNat=n:=Eq.trans rfl rfl
@[go_sem] theorem ZxT {fr} :Zcw [] fr=fr:=by simp [Zcw]
@[go_sem] theorem Zui {i v r fr} :Zcw ((i,v)::r) fr=Zcw r (pt fr i v):=by simp [Zcw]
@[go_sem] theorem ZAK {p q:Prop} [Decidable p] [Decidable q]:(decide p&&decide q)=decide (p/\q):=by simp
@[go_sem] theorem ZrQ {p q:Prop} [Decidable p] [Decidable q]:(decide p||decide q)=decide (p\/q):=by simp
theorem Zg {P c fr H Q} {I:Type} (ks:List Nat) (sets:I->List (Nat×V)) (hs:I->List Obj) (R:I->Prop) (μ:I->Nat) (i0:I) (hR:R i0) (h0:Weak H.length fr H (Zcw (sets i0) (YH 0 ks fr)) (hs i0))
  (round: ∀i,R i->awp [] P c (Zcw (sets i) (YH 0 ks fr)) (hs i) (Us (fun fr' H'=> ∃i',R i'/\μ i'<μ i/\Weak H.length fr' H' (Zcw (sets i') (YH 0 ks fr)) (hs i')) Q)):AWP P (.loop c) fr H Q :=
 ZeJ R (fun i=>Zcw (sets i) (YH 0 ks fr)) hs μ i0 hR h0 fun i hi=>Zb [] _ _ _ _ (round i hi)
theorem ZZ {P c fr H Q} (cuts:List Nat) {I:Type} (ks:List Nat) (sets:I->List (Nat×V)) (hs:I->List Obj) (R:I->Prop) (μ:I->Nat) (i0:I) (hR:R i0) (h0:Weak H.length fr H (Zcw (sets i0) (YH 0 ks fr)) (hs i0))
  (round: ∀i,R i->awp cuts P c (Zcw (sets i) (YH 0 ks fr)) (hs i) (Us (fun fr' H'=> ∃i',R i'/\μ i'<μ i/\Weak H.length fr' H' (Zcw (sets i') (YH 0 ks fr)) (hs i')) Q)):AWP P (.loop c) fr H Q :=
 ZeJ R (fun i=>Zcw (sets i) (YH 0 ks fr)) hs μ i0 hR h0 fun i hi=>Zb cuts _ _ _ _ (round i hi)
theorem Zo {P x y fr H Q} {I:Type} (ks:List Nat) (sets:I->List (Nat×V)) (hs:I->List Obj) (R:I->Prop)
  (h:awp [] P x fr H (Us (fun fr' H'=> ∃i,R i/\Weak H.length fr' H' (Zcw (sets i) (YH 0 ks fr)) (hs i)) Q)) (k: ∀i,R i->AWP P y (Zcw (sets i) (YH 0 ks fr)) (hs i) Q):AWP P (.seq x y) fr H Q :=
 fun F ι a w hr hf=>by
 refine wp_seq (wp_mono (Zb [] _ _ _ _ h F ι a w hr hf) ?_);rintro e a' w' ⟨fr',H',ι',q,g,f⟩
 cases e with
 | normal =>
  obtain ⟨i,hi,hw⟩:=q;obtain ⟨ι2,r2,f2,g2⟩:=hw F ι' a' w' g.rel f;refine wp_mono (k i hi F ι2 a' w' r2 f2) ?_;rintro e2 a2 w2 ⟨fr2,H2,ι3,q2,g3,f3⟩;exact ⟨fr2,H2,ι3,q2,(g2 H ι w (Nat.le_refl _) g).trans g3,f3⟩
 | exit id=>exact ⟨fr',H',ι',q,g,f⟩
 | goto l=>exact ⟨fr',H',ι',q,g,f⟩
 | ret=>exact ⟨fr',H',ι',q,g,f⟩
 | panic ch=>exact ⟨fr',H',ι',q,g,f⟩
 | outgrown=>exact ⟨fr',H',ι',q,g,f⟩
theorem Zxb {H n x} :wkV H n x x=(refB n x=true\/x= .junk\/ ∃y,frz H n x=some y/\x= .p y):=by
 simp only [wkV,true_and,eq_iff_iff]
 constructor
 ·rintro (h | h | h)
  ·exact .inr (.inl h)
  ·exact .inl h
  ·exact .inr (.inr h)
 ·rintro (h | h | h)
  ·exact .inr (.inl h)
  ·exact .inl h
  ·exact .inr (.inr h)
@[go_sem] theorem ZvM {H n x} :wkV H n x .junk=True:=by simp [wkV]
@[go_sem] theorem ZB9 {H n} {x y:PV} :wkV H n (.p x) (.p y)=(y=x):=by simp [wkV,refB,frz]
@[go_sem] theorem ZAz {H n o off len tot o' off' len' tot'} :wkV H n (.sl o off len tot) (.sl o' off' len' tot')=((o'=o/\off'=off/\len'=len/\tot'=tot)/\o<n):=by simp [wkV,refB]
@[go_sem] theorem ZxG {H n o off o' off'} :wkV H n (.ptr o off) (.ptr o' off')=((o'=o/\off'=off)/\o<n):=by simp [wkV,refB]
@[go_sem] theorem Zyh {H n} :wkF H n [] []=True:=by simp [wkF]
@[go_sem] theorem ZwG {H n x l x' l'} :wkF H n (x::l) (x'::l')=(wkV H n x x'/\wkF H n l l'):=by simp [wkF]
@[go_sem] theorem ZAt {H n l} :wkH H n l []=True:=by simp [wkH]
@[go_sem] theorem ZxZ {H n x l x' l'} :wkH H n (x::l) (x'::l')=(wkO H n x x'/\wkH H n l l'):=by simp [wkH]
@[go_sem] theorem Zs2 {H n cs cs'} :wkO H n (.cells cs) (.cells cs')=wkF H n cs cs':=by simp [wkO]
@[go_sem] theorem Zqu {H n S S' xs xs'} :wkO H n (.elems S xs) (.elems S' xs')=(S=S'/\xs=xs'):=by simp [wkO]
@[go_sem] theorem ZyA {H n es es2} :wkO H n (.map es) (.map es2)=(es=es2):=by simp [wkO]
@[go_sem] theorem ZBX {H n o o2} :wkV H n (.mp o) (.mp o2)=(o2=o/\o<n):=by simp [wkV,refB,frz]
@[go_sem] theorem ZwU {H n} :wkO H n .dead .dead=True:=by simp [wkO]
theorem Weak.mk {n0 fr H fr' H'} (h:n0<=H'.length/\H'.length<=H.length/\wkF H H'.length fr fr'/\wkH H H'.length H H'):Weak n0 fr H fr' H':=Weak.of h.1 h.2.2.1 h.2.2.2 h.2.1
theorem wk {n0 fr H fr' H'} (h:n0<=H'.length/\H'.length<=H.length/\wkF H H'.length fr fr'/\wkH H H'.length H H':=by simp (disch:=omega) only [go_sem,seval]):Weak n0 fr H fr' H':=Weak.mk h
theorem we {n0 x H' a b} (h:n0<=List.length b/\List.length b<=H'.length/\wkF H' (List.length b) [x] [a]/\wkH H' (List.length b) H' b:=by simp (disch:=omega) only [go_sem,seval]): ∃y H'',Weak n0 [x] H' [y] H''/\y=a/\H''=b:=⟨_,_,Weak.mk h,rfl,rfl⟩
attribute [go_sem] List.length_cons List.length_nil List.cons_append List.nil_append List.append_nil List.map_cons List.map_nil List.drop_zero List.drop_succ_cons List.drop_nil List.take_succ_cons List.take_zero List.take_nil List.all_cons List.all_nil
 Nat.zero_add Nat.add_zero and_self true_and and_true Option.map_some Option.bind_some List.getElem?_cons_zero List.getElem?_cons_succ Bool.and_true Bool.true_and Bool.and_self List.length_map if_true if_false decide_true decide_false IntWalk.i64_in IntWalk.i32_in IntWalk.u8_in IntWalk.u64_in IntWalk.u32_in
 beq_self_eq_true List.replicate_succ List.replicate_zero Bool.or_true Bool.true_or Bool.or_false Bool.false_or Bool.not_true Bool.not_false
end Go.AM
namespace Go.AM
open Go.RowKit
theorem RP.weaker {X X':Nat->Prop} {w x v} (h:RP X w x v) (hx: ∀b,X' b->X b):RP X' w x v:=h.ext (w':=w) fun _ hb hs=>⟨fun h=>hb (hx _ h),hs,rfl⟩
theorem Good.forget {F w H' ι' w'} (he:Env F [] w) (hf: ∀b,F b->b<w.heap.size) (g:Good F [] [] w H' ι' w'):Good F [] [] w [] [] w' :=
 .up he ⟨⟨rfl,fun b hb=>by have:=hf b hb;have:=g.size;omega,fun i j b hi=>by simp at hi,fun i b hi=>by simp at hi,fun o cs ho=>by simp at ho,fun o S xs ho=>by simp at ho,fun o es ho=>by simp at ho,fun o T E r bs ho=>by simp at ho⟩,
  g.os,g.tape,g.output,fun b c t h=>(g.shape b c t h).imp (fun h=>absurd h.1 (by simp)) id,g.size,g.keep,fun _ _ h=>h,fun o ob ho=>by simp at ho⟩
theorem ACalls.pure {P g args} {y:PV} (h:ACalls P g args [] fun x _=>x= .p y):ACalls P g args [] fun x H'=>x= .p y/\H'= []:=by
 refine ⟨h.1,fun F ι w vs hr hv=> ?_⟩;have hι:ι= []:=List.eq_nil_of_length_eq_zero hr.len;subst hι;refine (h.2 F [] w vs hr hv).mono ?_;rintro e w' ⟨x,H',ι',v,rfl,rfl,gd,rv⟩
 cases rv with | p _ _ rp =>
 exact ⟨_,[],[],v,rfl,⟨rfl,rfl⟩,gd.forget hr.env hr.fin,.p _ _ (rp.weaker fun b hb=> .inl (by rcases hb with hb | hb;exact hb;simp at hb))⟩
theorem Kw {F:Nat->Prop} {w w':World} {H':List Obj} {ι':List (Option Nat)} {v:Value} {o S n:Nat} {xs:List PV} (hF: ∀b,F b->b<w.heap.size) (hn:xs.length=n) (ho:oat H' o= .elems S xs)
  (gd:Good F [] [] w H' ι' w') (rv:RV F H' ι' w' (.sl o 0 n n) v): ∃ι2,Good F [] [] w [.elems S xs] ι2 w'/\RV F [.elems S xs] ι2 w' (.sl 0 0 n n) v:=by
 have hH:=ZE ho (by simp);have hlt:=(List.getElem?_eq_some_iff.1 hH).1
 have hlt':o<ι'.length:=by rw [gd.rel.len];exact hlt
 have hι':ι'[o]? =some (ι'[o]):=by simp [hlt']
 have hget: ∀ {i:Nat} {q:Option Nat},[ι'[o]][i]? =some q->i=0/\ι'[o]? =some q:=fun {i q} h=>by
  cases i with
  | zero=>simp at h;subst h;exact ⟨rfl,hι'⟩
  | succ i=>simp at h
 have hown: ∀b,Own F [ι'[o]] b->Own F ι' b:=fun b hb=>by
  rcases hb with hb | hb
  ·exact .inl hb
  ·simp at hb;right;rw [hb];simp
 refine ⟨[ι'[o]],⟨⟨⟨rfl,fun b hb=> ?_,fun i j b hi hj=> ?_,fun i b hi=> ?_,fun o' cs ho'=> ?_,fun o' S' xs' ho'=> ?_,fun o' es ho'=>by cases o'<;>simp at ho',fun o' T E r bs ho'=>by cases o'<;>simp at ho'⟩,gd.rel.env.le hown⟩,gd.os,gd.tape,gd.output,fun b c t h=>(gd.shape b c t h).imp (fun h=>absurd h.1 (by simp)) id,gd.size,gd.keep,fun b hb _ h=> ?_,fun o ob ho=>by simp at ho⟩,?_⟩
 ·have:=hF b hb;have:=gd.size;omega
 ·rw [(hget hi).1,(hget hj).1]
 ·exact gd.rel.avo o b (hget hi).2
 ·cases o' with
  | zero=>simp at ho'
  | succ i=>simp at ho'
 ·cases o' with
  | zero =>
   simp at ho';obtain ⟨rfl,rfl⟩:=ho';rcases gd.rel.elm o _ _ hH with ⟨e1,e2⟩ | ⟨b,c,t,cap,e1,e2,e3,e4,e5,e6,e7⟩
   ·exact .inl ⟨by rw [hι'] at e1;simpa using e1,e2⟩
   ·exact .inr ⟨b,c,t,cap,by rw [hι'] at e1;simpa using e1,e2,e3,e4,e5,e6,fun i x j y hi hj=>(e7 i x j y hi hj).weaker hown⟩
  | succ i=>simp at ho'
 ·simp at h;exact gd.own b hb (by simp) (by rw [h];simp)
 ·cases rv with
  | slNil _ S2 a h1 h2 =>
   rw [hH] at h2;simp at h2;obtain ⟨rfl,rfl⟩:=h2;exact .slNil 0 S a (by rw [hι'] at h1;simpa using h1) rfl
  | sl _ _ _ _ b S2 cap t xs2 c h1 h2 ht hw hcap hl hlen hm =>
   rw [hH] at h2;simp at h2;obtain ⟨rfl,rfl⟩:=h2;exact .sl 0 0 n n b S cap t xs c (by rw [hι'] at h1;simpa using h1) rfl hn hw hcap hl hlen hm
  | slD _ _ _ _ _ h1=>rw [hH] at h1;cases h1
  | slS _ _ _ _ _ S2 xs2 h1 hne=>rw [hH] at h1;simp at h1;obtain ⟨_,rfl⟩:=h1;omega
  | slC _ _ _ _ _ _ hd=>rw [hH] at hd;cases hd
theorem ACalls.fresh {P g args} {S n:Nat} {xs:List PV} (hn:xs.length=n) (h:ACalls P g args [] fun x H'=> ∃o,x= .sl o 0 n n/\oat H' o= .elems S xs):ACalls P g args [] fun x H'=>x= .sl 0 0 n n/\H'= [.elems S xs]:=by
 refine ⟨h.1,fun F ι w vs hr hv=> ?_⟩;have hι:ι= []:=List.eq_nil_of_length_eq_zero hr.len;subst hι;refine (h.2 F [] w vs hr hv).mono ?_;rintro e w' ⟨x,H',ι',v,rfl,⟨o,rfl,ho⟩,gd,rv⟩;obtain ⟨ι2,g2,r2⟩:=Kw hr.fin hn ho gd rv;exact ⟨_,_,ι2,v,rfl,⟨rfl,rfl⟩,g2,r2⟩
theorem ACalls.freshE {P g args} {α:Type} {S:Nat} {f:α->PV} {R:List α->Prop} (h:ACalls P g args [] fun x H'=> ∃l:List α,R l/\ ∃o,x= .sl o 0 l.length l.length/\oat H' o= .elems S (l.map f)) :
  ACalls P g args [] fun x H'=> ∃l:List α,R l/\x= .sl 0 0 l.length l.length/\H'= [.elems S (l.map f)]:=by
 refine ⟨h.1,fun F ι w vs hr hv=> ?_⟩;have hι:ι= []:=List.eq_nil_of_length_eq_zero hr.len;subst hι;refine (h.2 F [] w vs hr hv).mono ?_;rintro e w' ⟨x,H',ι',v,rfl,⟨l,hl,o,rfl,ho⟩,gd,rv⟩;obtain ⟨ι2,g2,r2⟩:=Kw hr.fin (by simp) ho gd rv;exact ⟨_,_,ι2,v,rfl,⟨l,hl,rfl,rfl⟩,g2,r2⟩
theorem ACalls.frozen {P g args} {S n:Nat} {xs:List PV} (hn:xs.length=n) (h:ACalls P g args [] fun x H'=>x= .sl 0 0 n n/\H'= [.elems S xs]):ACalls P g args [] fun x H'=>x= .p (.list false xs)/\H'= []:=by
 refine ⟨h.1,fun F ι w vs hr hv=> ?_⟩;have hι:ι= []:=List.eq_nil_of_length_eq_zero hr.len;subst hι;refine (h.2 F [] w vs hr hv).mono ?_;rintro e w' ⟨x,H',ι',v,rfl,⟨rfl,rfl⟩,gd,rv⟩;have hk:Keeps (Own F ι') w' (Own F []) w':=fun b hb hs=>⟨fun h=>hb (.inl (by rcases h with h | h;exact h;simp at h)),hs,rfl⟩
 have:=JM (S:=S) (xs:=xs) (off:=0) (len:=n) (tot:=n) (Own F []) (fun b hb h=>by
  rcases h with h | h
  ·exact (gd.rel.avo 0 b hb).1 h
  ·simp at h) hk gd.rel rfl hn (by omega) rv
 rw [Nat.zero_add,List.drop_zero,List.take_of_length_le (by omega)] at this;exact ⟨_,[],[],v,rfl,⟨rfl,rfl⟩,gd.forget hr.env hr.fin,.p _ _ this⟩
theorem ACalls.frozenE {P g args} {α:Type} {S:Nat} {f:α->PV} {R:List α->Prop} (h:ACalls P g args [] fun x H'=> ∃l:List α,R l/\x= .sl 0 0 l.length l.length/\H'= [.elems S (l.map f)]) :
  ACalls P g args [] fun x H'=> ∃l:List α,R l/\x= .p (.list false (l.map f))/\H'= []:=by
 refine ⟨h.1,fun F ι w vs hr hv=> ?_⟩;have hι:ι= []:=List.eq_nil_of_length_eq_zero hr.len;subst hι;refine (h.2 F [] w vs hr hv).mono ?_;rintro e w' ⟨x,H',ι',v,rfl,⟨l,hl,rfl,rfl⟩,gd,rv⟩;have hk:Keeps (Own F ι') w' (Own F []) w':=fun b hb hs=>⟨fun h=>hb (.inl (by rcases h with h | h;exact h;simp at h)),hs,rfl⟩
 have:=JM (S:=S) (xs:=l.map f) (off:=0) (len:=l.length) (tot:=l.length) (Own F []) (fun b hb h=>by
  rcases h with h | h
  ·exact (gd.rel.avo 0 b hb).1 h
  ·simp at h) hk gd.rel rfl (by simp) (by omega) rv
 rw [Nat.zero_add,List.drop_zero,List.take_of_length_le (by simp)] at this;exact ⟨_,[],[],v,rfl,⟨l,hl,rfl,rfl⟩,gd.forget hr.env hr.fin,.p _ _ this⟩
theorem ACalls.useV {P g args} {α:Type} {f:α->PV} {R:α->Prop} {H:List Obj} {K:V->List Obj->Prop} (h:ACalls P g args [] fun x H'=> ∃a:α,R a/\x= .p (f a)/\H'= []) (k: ∀a,R a->K (.p (f a)) H) (ha:ZR 0 args=true:=by rfl):ACalls P g args H K:=by
 refine (h.behind ha H).mono ?_;rintro x H' ⟨y',H1,⟨a,ra,rfl,rfl⟩,rfl,rfl⟩;simpa [shV] using k a ra
theorem ACalls.useE {P g args} {α:Type} {S:Nat} {f:α->PV} {R:List α->Prop} {H:List Obj} {K:V->List Obj->Prop} (h:ACalls P g args [] fun x H'=> ∃l:List α,R l/\x= .sl 0 0 l.length l.length/\H'= [.elems S (l.map f)])
  (k: ∀l,R l->K (.sl H.length 0 l.length l.length) (H++ [.elems S (l.map f)])) (ha:ZR 0 args=true:=by rfl):ACalls P g args H K:=by
 refine (h.behind ha H).mono ?_;rintro x H' ⟨y',H1,⟨l,rl,rfl,rfl⟩,rfl,rfl⟩;simpa [shV,shO] using k l rl
theorem ACalls.use {P g args} {y:PV} {H:List Obj} {K:V->List Obj->Prop} (h:ACalls P g args [] fun x H'=>x= .p y/\H'= []) (k:K (.p y) H) (ha:ZR 0 args=true:=by rfl):ACalls P g args H K:=by
 refine (h.behind ha H).mono ?_;rintro x H' ⟨y',H1,⟨rfl,rfl⟩,rfl,rfl⟩;simpa [shV] using k
theorem ACalls.useF {P g args} {S n:Nat} {xs:List PV} {H:List Obj} {K:V->List Obj->Prop} (h:ACalls P g args [] fun x H'=>x= .sl 0 0 n n/\H'= [.elems S xs]) (k:K (.sl H.length 0 n n) (H++ [.elems S xs])) (ha:ZR 0 args=true:=by rfl):ACalls P g args H K:=by
 refine (h.behind ha H).mono ?_;rintro x H' ⟨y',H1,⟨rfl,rfl⟩,rfl,rfl⟩;simpa [shV,shO] using k
theorem Za {P:Program} {g:FuncId} {fn:Func} {c:Code} {args:List V} {y:PV} (hf:P.funcs[g]? =some fn) (hb:fn.body=some c) (hg:Zf P g)
  (h:awp [] P c (args++List.replicate (fn.ntmps-args.length) .junk) [] (Zdc P fn.results.toList fun x _=>x= .p y)):ACalls P g args [] fun x H'=>x= .p y/\H'= [] :=
 (Xh hf hb hg (Zb [] _ _ _ _ h)).pure
theorem YR (cuts:List Nat) {P:Program} {g:FuncId} {fn:Func} {c:Code} {args:List V} {y:PV} (hf:P.funcs[g]? =some fn) (hb:fn.body=some c) (hg:Zf P g)
  (h:awp cuts P c (args++List.replicate (fn.ntmps-args.length) .junk) [] (Zdc P fn.results.toList fun x _=>x= .p y)):ACalls P g args [] fun x H'=>x= .p y/\H'= [] :=
 (Xh hf hb hg (Zb cuts _ _ _ _ h)).pure
theorem YI {P:Program} {g:FuncId} {fn:Func} {c:Code} {args:List V} {S n:Nat} {xs:List PV} (hn:xs.length=n) (hf:P.funcs[g]? =some fn) (hb:fn.body=some c) (hg:Zf P g)
  (h:awp [] P c (args++List.replicate (fn.ntmps-args.length) .junk) [] (Zdc P fn.results.toList fun x H'=> ∃o,x= .sl o 0 n n/\oat H' o= .elems S xs)):ACalls P g args [] fun x H'=>x= .sl 0 0 n n/\H'= [.elems S xs] :=
 (Xh hf hb hg (Zb [] _ _ _ _ h)).fresh hn
theorem ZaB (cuts:List Nat) {P:Program} {g:FuncId} {fn:Func} {c:Code} {args:List V} {S n:Nat} {xs:List PV} (hn:xs.length=n) (hf:P.funcs[g]? =some fn) (hb:fn.body=some c) (hg:Zf P g)
  (h:awp cuts P c (args++List.replicate (fn.ntmps-args.length) .junk) [] (Zdc P fn.results.toList fun x H'=> ∃o,x= .sl o 0 n n/\oat H' o= .elems S xs)):ACalls P g args [] fun x H'=>x= .sl 0 0 n n/\H'= [.elems S xs] :=
 (Xh hf hb hg (Zb cuts _ _ _ _ h)).fresh hn
theorem Zz (cuts:List Nat) {P:Program} {g:FuncId} {fn:Func} {c:Code} {args:List V} {α:Type} {S:Nat} {f:α->PV} {R:List α->Prop} (hf:P.funcs[g]? =some fn) (hb:fn.body=some c) (hg:Zf P g)
  (h:awp cuts P c (args++List.replicate (fn.ntmps-args.length) .junk) [] (Zdc P fn.results.toList fun x H'=> ∃l:List α,R l/\ ∃o,x= .sl o 0 l.length l.length/\oat H' o= .elems S (l.map f))):ACalls P g args [] fun x H'=> ∃l:List α,R l/\x= .sl 0 0 l.length l.length/\H'= [.elems S (l.map f)] :=
 (Xh hf hb hg (Zb cuts _ _ _ _ h)).freshE
theorem Weak.ofNil {n0 fr H fr' H'} (t S:Nat) (h:gt fr t= .p (.list true [])) (hn:n0<=H.length) (k:Weak n0 (pt fr t (.sl H.length 0 0 0)) (H++ [.elems S []]) fr' H'):Weak n0 fr H fr' H' :=
 (Weak.nil t S h hn).trans k
end Go.AM
namespace Go.AM
open Go.RowKit
section
variable {P : Program} {H : List Obj} {t : TypeId} {fr : List V}
def Zf0 (e:Option (Option Nat×Nat)) (c:Bool) (xs:List PV) (lo hi:V):Option V:=match e,lo,hi with
 | some (none,S),.p (.int _ a),.p (.int _ b)=>if ZcB S xs=true/\0<=a/\a<=b/\b<=xs.length then some (.p (.list (c&&decide (b=xs.length)) ((xs.take b.toNat).drop a.toNat))) else none
 | _,_,_=>none
def V.isInt : V->Option Int
 | .p (.int _ n)=>some n
 | _=>none
theorem V.isInt_some {x:V} {n} (h:x.isInt=some n): ∃k,x= .p (.int k n):=by
 unfold V.isInt at h;split at h
 ·rename_i k m;simp at h;exact ⟨k,by rw [h]⟩
 ·cases h
theorem WF {d:Int} {x:Operand} :abd d fr (some x)=(ev fr x).isInt:=rfl
theorem JE {c xs k k' a b} :(Vw P t c xs a b none).map .p=Zf0 (Y1 P t) c xs (.p (.int k a)) (.p (.int k' b)):=by
 simp only [Vw,Zf0]
 cases Y1 P t with
 | none=>rfl
 | some q =>
  obtain ⟨e,S⟩:=q
  cases e with
  | some n=>rfl
  | none=>simp only [];split<;>rfl
theorem ZfS {e c xs lo hi} (h:lo.isInt=none):Zf0 e c xs lo hi=none:=by
 unfold Zf0;split
 ·simp [V.isInt] at h
 ·rfl
theorem ZgE {e c xs lo hi} (h:hi.isInt=none):Zf0 e c xs lo hi=none:=by
 unfold Zf0;split
 ·simp [V.isInt] at h
 ·rfl
@[go_sem] theorem ZrA {c xs hi} :Yp P H t fr (.p (.list c xs)) none (some hi) none=Zf0 (Y1 P t) c xs (.p (.int .i64 0)) (ev fr hi):=by
 simp only [Yp,WF]
 cases h:(ev fr hi).isInt with
 | none=>simp [abd,ZgE h]
 | some n=>obtain ⟨k,e⟩:=V.isInt_some h;rw [e,<- JE];rfl
@[go_sem] theorem Ztj {c xs lo} :Yp P H t fr (.p (.list c xs)) (some lo) none none=Zf0 (Y1 P t) c xs (ev fr lo) (.p (.int .i64 (List.length xs))):=by
 simp only [Yp,WF]
 cases h:(ev fr lo).isInt with
 | none=>simp [ZfS h]
 | some n=>obtain ⟨k,e⟩:=V.isInt_some h;rw [e,<- JE];rfl
@[go_sem] theorem Zod {c xs lo hi} :Yp P H t fr (.p (.list c xs)) (some lo) (some hi) none=Zf0 (Y1 P t) c xs (ev fr lo) (ev fr hi):=by
 simp only [Yp,WF]
 cases h:(ev fr lo).isInt with
 | none=>simp [ZfS h]
 | some n =>
  cases h2:(ev fr hi).isInt with
  | none=>simp [ZgE h2]
  | some m=>obtain ⟨k,e⟩:=V.isInt_some h;obtain ⟨k2,e2⟩:=V.isInt_some h2;rw [e,e2,<- JE]
@[go_sem] theorem Zxz {α:Type} {f:α->PV} {l:List α} {S c k k' a b} (h0:0<=a) (h1:a<=b) (h2:b<=(l.length:Int)) :
  Zf0 (some (none,S)) c (l.map f) (.p (.int k a)) (.p (.int k' b))=if ZcB S (l.map f)=true then some (.p (.list (c&&decide (b=l.length)) (((l.take b.toNat).drop a.toNat).map f))) else none:=by
 simp only [Zf0,List.length_map]
 by_cases h:ZcB S (l.map f)=true
 ·rw [if_pos ⟨h,h0,h1,h2⟩,if_pos h];simp
 ·rw [if_neg (fun q=>h q.1),if_neg h]
end
def Zg3 (P:Program) (d:Option TypeDesc) (x i:V):Option V :=
 match d,x,i with
 | some .string,.p (.str s),.p (.int _ n)=>if 0<=n then (s[n.toNat]?).map fun b=> .p (.int .u8 b.toNat) else none
 | some (.array k e),.p (.agg cs),.p (.int _ n)=>if 0<=n/\n<k then (match tsz P e with | some m=>(apart P e cs (n.toNat*m)).map .p | none=>none) else none
 | _,_,_=>none
@[go_sem] theorem ZyB {P:Program} {t:TypeId} {x i:V} :Zhn P t x i=Zg3 P (P.underlying t) x i:=Eq.trans rfl rfl
@[go_sem] theorem Zr3 {P:Program} {s:List UInt8} {k n} (h0:0<=n) (h1:n<(s.length:Int)):Zg3 P (some .string) (.p (.str s)) (.p (.int k n))=some (.p (.int .u8 ((nth s n.toNat).toNat:Nat))):=by
 have h:n.toNat<s.length:=by omega
 simp [Zg3,h0,h,Zd h]
def ZiP (d:Option TypeDesc) (s:List UInt8) (lo hi:V):Option V:=match d,lo,hi with
 | some .string,.p (.int _ a),.p (.int _ b)=>if 0<=a/\a<=b/\b<=s.length then some (.p (.str ((s.take b.toNat).drop a.toNat))) else none
 | _,_,_=>none
theorem Zny {d s lo hi} (h:lo.isInt=none):ZiP d s lo hi=none:=by
 unfold ZiP;split
 ·simp [V.isInt] at h
 ·rfl
theorem ZnM {d s lo hi} (h:hi.isInt=none):ZiP d s lo hi=none:=by
 unfold ZiP;split
 ·simp [V.isInt] at h
 ·rfl
section
variable {P : Program} {H : List Obj} {t : TypeId} {fr : List V}
theorem Zgw {s:List UInt8} {k k' a b} :(match P.underlying t with | some .string=>(if 0<=a/\a<=b/\b<=(s.length:Int) then some (V.p (.str ((s.take b.toNat).drop a.toNat))) else none) | _=>none)=ZiP (P.underlying t) s (.p (.int k a)) (.p (.int k' b)):=by
 simp only [ZiP]
 cases P.underlying t with
 | none=>rfl
 | some d=>cases d<;>rfl
@[go_sem] theorem Zmg {s lo hi} :Yp P H t fr (.p (.str s)) (some lo) (some hi) none=ZiP (P.underlying t) s (ev fr lo) (ev fr hi):=by
 simp only [Yp,WF]
 cases h:(ev fr lo).isInt with
 | none=>rw [Zny h];simp
 | some n =>
  cases h2:(ev fr hi).isInt with
  | none=>rw [ZnM h2];simp
  | some m =>
   obtain ⟨k,e⟩:=V.isInt_some h;obtain ⟨k2,e2⟩:=V.isInt_some h2;rw [e,e2,<- Zgw]
   cases P.underlying t with
   | none=>rfl
   | some d=>cases d<;>rfl
def Zlq (e:Option (Option Nat×Nat)) (xs:List PV) (hi mx:V):Option V:=match e,hi,mx with
 | some (none,S),.p (.int _ b),.p (.int _ m)=>if ZcB S xs=true/\0<=b/\b<=xs.length/\m=b then some (.p (.list true (xs.take b.toNat))) else none
 | _,_,_=>none
theorem ZmU {e xs hi mx} (h:hi.isInt=none):Zlq e xs hi mx=none:=by
 unfold Zlq;split
 ·simp [V.isInt] at h
 ·rfl
theorem ZnJ {e xs hi mx} (h:mx.isInt=none):Zlq e xs hi mx=none:=by
 unfold Zlq;split
 ·simp [V.isInt] at h
 ·rfl
@[go_sem] theorem Zou {c xs hi mx} :Yp P H t fr (.p (.list c xs)) none (some hi) (some mx)=Zlq (Y1 P t) xs (ev fr hi) (ev fr mx):=by
 simp only [Yp,WF]
 cases h:(ev fr hi).isInt with
 | none=>rw [ZmU h];simp [abd]
 | some n =>
  cases h2:(ev fr mx).isInt with
  | none=>rw [ZnJ h2];simp [abd]
  | some m =>
   obtain ⟨k,e⟩:=V.isInt_some h;obtain ⟨k2,e2⟩:=V.isInt_some h2;rw [e,e2];simp only [abd,Vw,Zlq]
   cases Y1 P t with
   | none=>rfl
   | some q =>
    obtain ⟨e,S⟩:=q
    cases e with
    | some n=>rfl
    | none =>
     simp only [List.drop_zero,Int.toNat_zero]
     by_cases hc:ZcB S xs=true/\0<=n/\n<=xs.length/\m=n
     ·rw [if_pos hc,if_pos ⟨hc.1,Int.le_refl 0,hc.2.1,hc.2.2.1⟩,if_pos hc.2.2.2];rfl
     ·rw [if_neg hc]
      split
      ·rename_i h3;rw [if_neg (fun h4=>hc ⟨h3.1,h3.2.2.1,h3.2.2.2,h4⟩)];rfl
      ·rfl
@[go_sem] theorem Zv4 {α:Type} {f:α->PV} {l:List α} {S k k' b m} (h0:m=b) (h1:b=(l.length:Int)):Zlq (some (none,S)) (l.map f) (.p (.int k b)) (.p (.int k' m))=if ZcB S (l.map f)=true then some (.p (.list true (l.map f))) else none:=by
 subst h0;subst h1;simp only [Zlq,List.length_map]
 by_cases h:ZcB S (l.map f)=true
 ·rw [if_pos ⟨h,by omega,by omega,trivial⟩,if_pos h];rw [Int.toNat_natCast,List.take_of_length_le (by simp)]
 ·rw [if_neg (fun q=>h q.1),if_neg h]
end
@[go_sem low] theorem ZjA {H:List Obj} {S b xs ys o n} :JS H (some (S,b)) (.elems S xs) o n (some ys)=if xs.length=n/\okE S ys=true/\(n+ys.length)*b<=140737488355328/\n+ys.length<=140737488355328 then some (.sl o 0 (n+ys.length) (n+ys.length),ost H o (.elems S (xs++ys))) else none:=by simp [JS]
@[go_sem] theorem ZyV {H:List Obj} {n f a b f' a' b'} :wkV H n (.fn f a b) (.fn f' a' b')=((f'=f/\a'=a/\b'=b)/\refB n (.fn f a b)=true):=by simp [wkV,frz]
@[go_sem] theorem ZyJ {n f a b} :refB n (.fn f a b)=(ZR n a&&ZR n b):=by simp [refB]
@[go_sem] theorem ZDt {n x} :refB n (.p x)=true:=by simp [refB]
@[go_sem] theorem ZvT {n o off} :refB n (.ptr o off)=decide (o<n):=by simp [refB]
@[go_sem] theorem Zzd {n o off l t} :refB n (.sl o off l t)=decide (o<n):=by simp [refB]
@[go_sem] theorem ZtX {n} :ZR n []=true:=by simp [ZR]
@[go_sem] theorem Zo7 {n x l} :ZR n (x::l)=(refB n x&&ZR n l):=by simp [ZR]
theorem ACalls.useH {P g args H} {v:V} {H2:List Obj} {K:V->List Obj->Prop} (h:ACalls P g args H fun x H'=>x=v/\H'=H2) (k:K v H2):ACalls P g args H K :=
 h.mono (by rintro _ _ ⟨rfl,rfl⟩;exact k)
theorem Qp {α:Type} {f:α->PV} {S:Nat} (h: ∀x,(f x).cells.length=S) (l:List α):ZcB S (l.map f)=true:=by
 cases l with
 | nil=>rfl
 | cons x l=>simp [ZcB,h]
@[go_sem] theorem Zyl {k k'} {a b:Int} (h:b<=a):Zjy false [.p (.int k a),.p (.int k' b)]=some (.int k a):=by simp [Zjy];omega
def Vh (F:Option (Nat×Nat×PV)) (H:List Obj) (x y:V):Option (V×List Obj):=match F,x,y with
 | some (S,by',z),.p (.int .i64 n),.p (.int .i64 m)=>if n=m/\0<=n/\(by':Int)*n<=281474976710656/\n<=281474976710656 then some (.sl H.length 0 n.toNat n.toNat,H++ [.elems S (List.replicate n.toNat z)]) else none
 | _,_,_=>none
theorem Kj {P:Program} {t:TypeId} {fr:List V} {H:List Obj} {x y:Operand} {F} (h:Zkk P t=some F):W5 P (.makeSlice t x y) fr H=Vh (some F) H (ev fr x) (ev fr y):=by
 unfold Zkk at h
 split at h
 ·rename_i e hu
  split at h
  ·rename_i S' z' b h1 h2 h3
   split at h
   ·rename_i hc;simp at h;subst h
    have h3':(P.info? e).map (fun x=>(x.bytes:Int))=some (b:Int):=by
     cases hi:P.info? e with
     | none=>simp [hi] at h3
     | some i=>simp [hi] at h3 ⊢;rw [h3]
    simp only [W5,hu,h2,hc.1,if_true,Zj9,h1,h3'];generalize ev fr x=X;generalize ev fr y=Y
    by_cases hX: ∃n,X= .p (.int .i64 n)
    ·obtain ⟨n,rfl⟩:=hX
     by_cases hY: ∃m,Y= .p (.int .i64 m)
     ·obtain ⟨m,rfl⟩:=hY;simp [Vh,hc.2]
     ·have e1:Vh (some (S',b,z')) H (.p (.int .i64 n)) Y=none:=by
       unfold Vh;split
       ·rename_i hm;exact absurd ⟨_,rfl⟩ hY
       ·rfl
      rw [e1];split
      ·exact absurd ⟨_,rfl⟩ hY
      ·rfl
    ·have e1:Vh (some (S',b,z')) H X Y=none:=by
      unfold Vh;split
      ·exact absurd ⟨_,rfl⟩ hX
      ·rfl
     rw [e1];split
     ·exact absurd ⟨_,rfl⟩ hX
     ·rfl
   ·cases h
  ·cases h
 ·cases h
@[go_sem] theorem Zuq {H:List Obj} {S b:Nat} {z n} (h0:0<=n) (h1:(b:Int)*n<=281474976710656) (h2:n<=281474976710656):Vh (some (S,b,z)) H (.p (.int .i64 n)) (.p (.int .i64 n))=some (.sl H.length 0 n.toNat n.toNat,H++ [.elems S (List.replicate n.toNat z)]):=by
 simp only [Vh];rw [if_pos ⟨trivial,h0,h1,h2⟩]
theorem ZsA (x y:Nat) (hx:x<9223372036854775808) (hy:y<9223372036854775808):IntKind.i64.wrap ((BitVec.ofInt 64 (x:Int)|||BitVec.ofInt 64 (y:Int)).toNat:Int)=((x|||y:Nat):Int):=by
 have e:(BitVec.ofInt 64 (x:Int)|||BitVec.ofInt 64 (y:Int)).toNat=x|||y:=by
  simp [BitVec.toNat_or,Nat.mod_eq_of_lt (show x<18446744073709551616 by omega),Nat.mod_eq_of_lt (show y<18446744073709551616 by omega)]
 have h:x|||y<2^63:=Nat.or_lt_two_pow (by omega) (by omega);rw [e];exact IntWalk.i64_in _ (by omega)
theorem ZnN (x y:Nat) (hx:x<9223372036854775808) (hy:y<9223372036854775808):IntKind.i64.wrap ((BitVec.ofInt 64 (x:Int)&&&BitVec.ofInt 64 (y:Int)).toNat:Int)=((x&&&y:Nat):Int):=by
 have e:(BitVec.ofInt 64 (x:Int)&&&BitVec.ofInt 64 (y:Int)).toNat=x&&&y:=by
  simp [BitVec.toNat_and,Nat.mod_eq_of_lt (show x<18446744073709551616 by omega),Nat.mod_eq_of_lt (show y<18446744073709551616 by omega)]
 have h:x&&&y<=x:=Nat.and_le_left;rw [e];exact IntWalk.i64_in _ (by omega)
@[go_sem high] theorem ZkV {P:Program} {t:TypeId} {x y:Nat} (hx:x<9223372036854775808) (hy:y<9223372036854775808):Ym P .or t (.p (.int .i64 (x:Int))) (.p (.int .i64 (y:Int)))=some (.int .i64 ((x|||y:Nat):Int)):=by
 rw [ZgN];exact congrArg (fun q=>some (PV.int .i64 q)) (ZsA x y hx hy)
@[go_sem high] theorem ZgM {P:Program} {t:TypeId} {x y:Nat} (hx:x<9223372036854775808) (hy:y<9223372036854775808):Ym P .and t (.p (.int .i64 (x:Int))) (.p (.int .i64 (y:Int)))=some (.int .i64 ((x&&&y:Nat):Int)):=by
 rw [Zk6];exact congrArg (fun q=>some (PV.int .i64 q)) (ZnN x y hx hy)
def pw (k:Nat):Nat:=2^k
theorem Znz (k:Nat):pw (k+1)=2*pw k:=by simp [pw,Nat.pow_succ];omega
theorem Ze6 {k m:Nat} (h:k<=m):pw k<=pw m:=Nat.pow_le_pow_right (by omega) h
theorem Zf7 (k:Nat):0<pw k:=Nat.pow_pos (by omega)
theorem Zje : pw 62=4611686018427387904:=by decide
@[go_sem high] theorem Zt3 {P:Program} {t:TypeId} {k'} {a:Int} (h0:0<=a) (h1:a<=62):Ym P .shl t (.p (.int .i64 1)) (.p (.int k' a))=some (.int .i64 ((pw a.toNat:Nat):Int)):=by
 rw [Zjt h0]
 have h2:min a.toNat IntKind.i64.bits=a.toNat:=by show min a.toNat 64=a.toNat;omega
 rw [h2,Int.one_mul]
 have h3:((2:Int)^a.toNat)=((pw a.toNat:Nat):Int):=by simp [pw]
 rw [h3];have:=Ze6 (show a.toNat<=62 by omega);have:=Zje;rw [IntWalk.i64_in _ (by omega)]
attribute [go_sem] List.length_append List.map_append not_false_eq_true not_true_eq_false false_and and_false true_or or_true false_or or_false Classical.not_not Bool.false_eq_true Bool.and_false Bool.false_and
end Go.AM
namespace Go.AM
open Go.RowKit
theorem ZcE {P ds frJ H} {K K':List V->Prop} : ∀(l:List Oper) (i:Nat) (vals:List V),(∀ys,ys.length=vals.length+l.length->K ys->K' ys)->hd P ds frJ H K i l vals->hd P ds frJ H K' i l vals
 | [],i,vals,hk,h=>hk vals rfl h
 | o::l,i,vals,hk,h=>by
  have ih: ∀y,hd P ds frJ H K (i+1) l (vals++ [y])->hd P ds frJ H K' (i+1) l (vals++ [y]):=fun y=>ZcE l (i+1) (vals++ [y]) fun ys hy=>hk ys (by simp at hy ⊢;omega);simp only [hd] at h ⊢
  split at h
  ·obtain ⟨y,h1,h2⟩:=h;exact ⟨y,h1,ih y h2⟩
  ·unfold Z3 at h ⊢
   split at h
   ·exact ⟨fun e=>by obtain ⟨y,h1,h2⟩:=h.1 e;exact ⟨y,h1,ih y h2⟩,fun e=>ih _ (h.2 e)⟩
   ·exact ih _ h
   ·exact h.elim
def hall : List (Option Nat)->List V->List V->List V
 | some d::ds,v::vals,fr=>hall ds vals (pt fr d v)
 | none::ds,_::vals,fr=>hall ds vals fr
 | _,_,fr=>fr
theorem UB (d:Option Nat) (v:V) (ds:List (Option Nat)) (vals:List V): ∀(l:List Nat) (fr:List V),Zx (d::ds) (v::vals) (l.map (· +1)) fr=Zx ds vals l fr
 | [],fr=>rfl
 | j::l,fr=>by
  simp only [List.map_cons,Zx,List.getElem?_cons_succ]
  split<;>exact UB d v ds vals l _
theorem KH : ∀(ds:List (Option Nat)) (vals:List V) (fr:List V),vals.length=ds.length->Zx ds vals (List.range ds.length) fr=hall ds vals fr
 | [],[],fr,_=>rfl
 | d::ds,v::vals,fr,h=>by
  have ih:=fun fr=>KH ds vals fr (by simpa using h);rw [List.length_cons,List.range_succ_eq_map]
  cases d with
  | none=>simp only [Zx,List.getElem?_cons_zero,hall];rw [UB];exact ih fr
  | some d=>simp only [Zx,List.getElem?_cons_zero,hall];rw [UB];exact ih _
 | [],_::_,_,h=>by simp at h
 | _::_,[],_,h=>by simp at h
theorem Kv {P:Program} {id:Nat} {l:List Oper} {fr:List V} {H:List Obj} {Q:Exit->List V->List Obj->Prop} {t} (hm:P.follows .mixedOrders=true) (hB:Wa (List.toArray l) l.length=true)
  (h:hd P (l.map (·.dst)) (Zw (l.map (·.dst)) fr) H (Zv (fun vals=>Q .normal (hall (l.map (·.dst)) vals (Zw (l.map (·.dst)) fr)) H) ⟨⟩) 0 l []) :
  AWP P (.region id (Zv (List.toArray l) t) true) fr H Q:=by
 refine Zcg (ops:=List.toArray l) l.length hm hB ?_;have e0:(List.toArray l).toList=l:=rfl;rw [e0];have e1:(l.map (fun x=>Oper.dst x)).take l.length=l.map (·.dst):=List.take_of_length_le (by simp);have e2:l.take l.length=l:=List.take_length
 have e3:l.drop l.length= []:=by simp
 rw [e1,e2,e3];refine ZcE _ _ _ (fun ys hy hk=> ?_) h;have e4:=KH (l.map (·.dst)) ys (Zw (l.map (·.dst)) fr) (by simp at hy ⊢;omega);rw [List.length_map] at e4;simp only [YB];rw [e4];exact hk
def exq (A:V->Prop) (B:V->Prop):Prop:= ∃y,A y/\B y
section
variable {P : Program} {ds : List (Option Nat)} {frJ : List V} {H : List Obj} {K : List V -> Prop} {i : Nat} {r : List Oper} {vals : List V} {d : Option Nat} {op : Op} {t : TypeId} {ps : String} {af : Array Edge}
@[go_sem ↓] theorem ZCB : hd P ds frJ H K i [] vals=K vals:=Eq.trans rfl rfl
@[go_sem ↓] theorem Zzn : hd P ds frJ H K i (⟨d,op,t,ps,af,none⟩::r) vals=exq (fun y=>Zr P ⟨d,op,t,ps,af,none⟩ (idF (Zx ds vals (Zs i ⟨d,op,t,ps,af,none⟩) frJ)) H (Zv (fun x H'=>x=y/\H'=H) ⟨⟩)) (Zv (fun y=>hd P ds frJ H K (i+1) r (vals++ [y])) ⟨⟩):=Eq.trans rfl rfl
@[go_sem ↓, go_sem] theorem ZCk {v:V} {B:V->Prop} {t} :exq (fun y=>v=y) (Zv B t)=B v:=by simp [exq,Zv]
@[go_sem] theorem ZuU {l:List Edge} {g} :Zs i ⟨d,op,t,ps,List.toArray l,g⟩=(l.filter fun e=>Region.binds .any e&&decide (e.on<i)).map (·.on):=Eq.trans rfl rfl
@[go_sem] theorem ZoN {on} :Region.binds .any ⟨on,.data⟩=true:=Eq.trans rfl rfl
@[go_sem] theorem Znj {on} :Region.binds .any ⟨on,.phase⟩=true:=Eq.trans rfl rfl
@[go_sem] theorem ZoC {on} :Region.binds .any ⟨on,.chain⟩=true:=Eq.trans rfl rfl
@[go_sem] theorem Zpr {on k} :Region.binds .any ⟨on,.textOnly k⟩=false:=Eq.trans rfl rfl
@[go_sem] theorem ZwX {on k} :Region.binds .any ⟨on,.gcOnly k⟩=false:=Eq.trans rfl rfl
def ZcF (ds:List (Option Nat)) (vals:List V) (l:List Nat) (fr:List V) (a:Option (Option Nat)) (v:Option V):List V:=match a,v with
 | some (some d),some v=>Zx ds vals l (pt fr d v)
 | _,_=>Zx ds vals l fr
@[go_sem] theorem ZwN {fr} :Zx ds vals [] fr=fr:=Eq.trans rfl rfl
@[go_sem] theorem Zqm {j l fr} :Zx ds vals (j::l) fr=ZcF ds vals l fr ds[j]? vals[j]? :=by simp only [Zx,ZcF];split<;>simp_all
@[go_sem] theorem Zpx {l fr d v} :ZcF ds vals l fr (some (some d)) (some v)=Zx ds vals l (pt fr d v):=Eq.trans rfl rfl
@[go_sem] theorem Zqx {d ds v vals fr} :hall (some d::ds) (v::vals) fr=hall ds vals (pt fr d v):=Eq.trans rfl rfl
@[go_sem] theorem Zv2 {fr} :hall [] [] fr=fr:=Eq.trans rfl rfl
@[go_sem] theorem Ztu {fr} :Zw [] fr=fr:=Eq.trans rfl rfl
@[go_sem] theorem ZpL {d l fr} :Zw (some d::l) fr=Zw l (pt fr d .junk):=Eq.trans rfl rfl
theorem Zk {f azs} {z:PV} {B:V->Prop} {t} (h:ACalls P f azs [] fun x H'=>x= .p z/\H'= []) (k:B (.p z)) (ha:ZR 0 azs=true:=by rfl) :
  exq (fun y=>ACalls P f azs H (Zv (Zv (fun x H'=>x=y/\H'=H) ⟨⟩) ⟨⟩)) (Zv B t) :=
 ⟨.p z,h.use ⟨rfl,rfl⟩ ha,k⟩
end
section
variable {P : Program} {fr : List V} {H : List Obj} {k : V -> List Obj -> Prop} {d : Option Nat} {t : TypeId} {ps : String} {af : Array Edge} {g : Option (Nat × Bool)}
@[go_sem ↓] theorem Zpu {u n l} :Zr P ⟨d,.buildSlice u n (List.toArray l),t,ps,af,g⟩ fr H k=pst ((ZgJ (QI P u) H n (l.map fun x=>(x.1,ev fr x.2))).map .p) (Zv (fun v=>k v H) ⟨⟩):=by
 simp only [Zr]
 cases (ZgJ (QI P u) H n (l.map fun x=>(x.1,ev fr x.2)))<;>simp [pst,Zv]
@[go_sem] theorem Zpg {S n l} :ZgJ (some S) H n l=if n=l.length/\n*S<=16777216/\0<S then (J0 H S 0 l).map (.list false) else none:=Eq.trans rfl rfl
@[go_sem ↓] theorem Zm5 {x} :Zr P ⟨d,.move x,t,ps,af,g⟩ fr H k=Zt P ⟨d,.move x,t,ps,af,g⟩ fr H k:=rfl
@[go_sem ↓] theorem Zk1 {x} :Zr P ⟨d,.assign x,t,ps,af,g⟩ fr H k=Zt P ⟨d,.assign x,t,ps,af,g⟩ fr H k:=rfl
@[go_sem ↓] theorem Zn9 {x y z} :Zr P ⟨d,.pick x y z,t,ps,af,g⟩ fr H k=Zt P ⟨d,.pick x y z,t,ps,af,g⟩ fr H k:=rfl
@[go_sem ↓] theorem ZlN {x} :Zr P ⟨d,.alloc x,t,ps,af,g⟩ fr H k=Zt P ⟨d,.alloc x,t,ps,af,g⟩ fr H k:=rfl
@[go_sem ↓] theorem Zpa {x y} :Zr P ⟨d,.box x y,t,ps,af,g⟩ fr H k=Zt P ⟨d,.box x y,t,ps,af,g⟩ fr H k:=rfl
@[go_sem ↓] theorem Zlr {x y} :Zr P ⟨d,.build x y,t,ps,af,g⟩ fr H k=Zt P ⟨d,.build x y,t,ps,af,g⟩ fr H k:=rfl
@[go_sem ↓] theorem Zni {x y} :Zr P ⟨d,.load x y,t,ps,af,g⟩ fr H k=Zt P ⟨d,.load x y,t,ps,af,g⟩ fr H k:=rfl
@[go_sem ↓] theorem Zmc {x y z} :Zr P ⟨d,.store x y z,t,ps,af,g⟩ fr H k=Zt P ⟨d,.store x y z,t,ps,af,g⟩ fr H k:=rfl
@[go_sem ↓] theorem ZhH {x} :Zr P ⟨d,.nilCheck x,t,ps,af,g⟩ fr H k=Zt P ⟨d,.nilCheck x,t,ps,af,g⟩ fr H k:=rfl
@[go_sem ↓] theorem Zl7 {x y z u v} :Zr P ⟨d,.binOp x y z u v,t,ps,af,g⟩ fr H k=Zt P ⟨d,.binOp x y z u v,t,ps,af,g⟩ fr H k:=rfl
@[go_sem ↓] theorem Zoi {x y z} :Zr P ⟨d,.unOp x y z,t,ps,af,g⟩ fr H k=Zt P ⟨d,.unOp x y z,t,ps,af,g⟩ fr H k:=rfl
@[go_sem ↓] theorem ZiF {x y z} :Zr P ⟨d,.convert x y z,t,ps,af,g⟩ fr H k=Zt P ⟨d,.convert x y z,t,ps,af,g⟩ fr H k:=rfl
@[go_sem ↓] theorem ZhS {x y z} :Zr P ⟨d,.makeFunc x y z,t,ps,af,g⟩ fr H k=Zt P ⟨d,.makeFunc x y z,t,ps,af,g⟩ fr H k:=rfl
@[go_sem ↓] theorem ZfM {x y z} :Zr P ⟨d,.makeSlice x y z,t,ps,af,g⟩ fr H k=Zt P ⟨d,.makeSlice x y z,t,ps,af,g⟩ fr H k:=rfl
@[go_sem ↓] theorem Zlv {x y z u v} :Zr P ⟨d,.slice x y z u v,t,ps,af,g⟩ fr H k=Zt P ⟨d,.slice x y z u v,t,ps,af,g⟩ fr H k:=rfl
@[go_sem ↓] theorem ZfJ {x y z} :Zr P ⟨d,.fieldAddr x y z,t,ps,af,g⟩ fr H k=Zt P ⟨d,.fieldAddr x y z,t,ps,af,g⟩ fr H k:=rfl
@[go_sem ↓] theorem Zlj {x y z} :Zr P ⟨d,.field x y z,t,ps,af,g⟩ fr H k=Zt P ⟨d,.field x y z,t,ps,af,g⟩ fr H k:=rfl
@[go_sem ↓] theorem ZfQ {x y z} :Zr P ⟨d,.indexAddr x y z,t,ps,af,g⟩ fr H k=Zt P ⟨d,.indexAddr x y z,t,ps,af,g⟩ fr H k:=rfl
@[go_sem ↓] theorem Zls {x y z} :Zr P ⟨d,.index x y z,t,ps,af,g⟩ fr H k=Zt P ⟨d,.index x y z,t,ps,af,g⟩ fr H k:=rfl
@[go_sem ↓] theorem ZiH {x y} :Zr P ⟨d,.extract x y,t,ps,af,g⟩ fr H k=Zt P ⟨d,.extract x y,t,ps,af,g⟩ fr H k:=rfl
@[go_sem ↓] theorem ZmM {x y z} :Zr P ⟨d,.call ⟨.value x,y,z⟩,t,ps,af,g⟩ fr H k=Zt P ⟨d,.call ⟨.value x,y,z⟩,t,ps,af,g⟩ fr H k:=rfl
@[go_sem ↓] theorem ZpD {y z} :Zr P ⟨d,.call ⟨.builtin .len,y,z⟩,t,ps,af,g⟩ fr H k=Zt P ⟨d,.call ⟨.builtin .len,y,z⟩,t,ps,af,g⟩ fr H k:=rfl
@[go_sem ↓] theorem Zpl {y z} :Zr P ⟨d,.call ⟨.builtin .max,y,z⟩,t,ps,af,g⟩ fr H k=Zt P ⟨d,.call ⟨.builtin .max,y,z⟩,t,ps,af,g⟩ fr H k:=rfl
@[go_sem ↓] theorem ZoY {y z} :Zr P ⟨d,.call ⟨.builtin .min,y,z⟩,t,ps,af,g⟩ fr H k=Zt P ⟨d,.call ⟨.builtin .min,y,z⟩,t,ps,af,g⟩ fr H k:=rfl
def ZkF (P:Program) (H:List Obj) (t u:TypeId) (x y:V) (k:V->List Obj->Prop):Prop:= ∃S zs,Uh P H t u x y=some (.sl H.length 0 zs.length zs.length,H++ [.elems S zs])/\k (.p (.list false zs)) H
@[go_sem ↓] theorem Zkw {x y u u2} :Zr P ⟨d,.call ⟨.builtin .append,#[x,y],#[u,u2]⟩,t,ps,af,g⟩ fr H k=ZkF P H u u2 (ev fr x) (ev fr y) (Zv k ⟨⟩):=rfl
def ZoQ (F:Option (Nat×Nat)) (xs:List PV) (ys:Option (List PV)):Option PV:=match F,ys with
 | some (S,by'),some ys=>if okE S ys=true/\okE S xs=true/\(xs= []\/0<ys.length)/\(xs.length+ys.length)*by'<=140737488355328/\xs.length+ys.length<=140737488355328 then some (.list false (xs++ys)) else none
 | _,_=>none
@[go_sem] theorem Zuf {α:Type} {S b} {f:α->PV} {l:List α} {x:PV} (hb:(l.length+1)*b<=140737488355328) (hb2:l.length+1<=140737488355328):ZoQ (some (S,b)) (l.map f) (some [x])=if okE S [x]=true/\okE S (l.map f)=true then some (.list false (l.map f++ [x])) else none:=by
 simp [ZoQ,hb,hb2]
theorem Zfa {u u2:TypeId} {F} {xs:List PV} {y:V} (hF:ZbZ P u=some F) {tt} :ZkF P H u u2 (.p (.list true xs)) y (Zv k tt)=pst ((ZoQ (some F) xs (Ys (P.underlying u2) H y)).map .p) (Zv (fun v=>k v H) ⟨⟩):=by
 obtain ⟨S,by'⟩:=F;obtain ⟨e,z,h1,h2,h3,h4,h6⟩:=K8 hF;have e1:Ys (P.underlying u2) H y=ZiE P H u2 y:=Eq.trans rfl rfl;rw [e1];unfold ZkF Zv
 cases h5:ZiE P H u2 y with
 | none =>
  have:Uh P H u u2 (.p (.list true xs)) y=none:=by simp [Uh,h1,h2,h3,h4,h5]
  simp [this,ZoQ,pst]
 | some ys =>
  rw [ZcL h1 h2 h3 h4 h5 h6];simp only [ZoQ]
  by_cases hc:okE S ys=true
  ·rw [if_pos hc];simp only [hc,true_and]
   by_cases hd:okE S xs=true/\(xs= []\/0<ys.length)/\(xs.length+ys.length)*by'<=140737488355328/\xs.length+ys.length<=140737488355328
   ·rw [if_pos hd,if_pos hd];simp only [Option.map_some,pst,eq_iff_iff]
    constructor
    ·rintro ⟨S2,zs,h,hk⟩;simp at h;obtain ⟨_,_,rfl⟩:=h;exact hk
    ·intro hk;exact ⟨S,xs++ys,by simp,hk⟩
   ·rw [if_neg hd,if_neg hd];simp [pst]
  ·simp [hc,pst]
theorem ZbM {o fr' H'} (h:fr=fr') (h2:H=H'):Zr P o fr H k=Zr P o fr' H' k:=by rw [h,h2]
end
attribute [congr] ZbM
attribute [go_sem] List.filter_cons List.filter_nil
end Go.AM
namespace Go.AM
open Go.RowKit
mutual
/-- no memory in it -/
def Zm9 : PV->Bool
 | .list _ xs=>xs.isEmpty
 | .agg cs=>ZhL cs
 | _=>true
def ZhL : List PV->Bool
 | []=>true
 | x::l=>Zm9 x&&ZhL l
end
theorem VE : ∀ {l:List PV},ZhL l=true-> ∀(j:Nat) (x:PV),l[j]? =some x->Zm9 x=true
 | [],_,j,x,h=>by simp at h
 | y::l,hh,j,x,h=>by
  simp [ZhL] at hh
  cases j with
  | zero=>simp at h;subst h;exact hh.1
  | succ j=>exact VE hh.2 j x (by simpa using h)
theorem RP.anywhere {X X':Nat->Prop} {w w' x v} (h:RP X w x v) (hf:Zm9 x=true):RP X' w' x v:=by
 induction h with
 | int k n=>exact .int k n
 | bool b=>exact .bool b
 | str s=>exact .str s
 | nilp=>exact .nilp
 | nili=>exact .nili
 | nilf=>exact .nilf
 | nilm=>exact .nilm
 | fn f=>exact .fn f
 | nils cl=>exact .nils cl
 | emp cl a cap hc hm ha=>exact .emp cl a cap hc hm ha
 | list cl xs b off cap S u hX hb hc hm hcl hS hu hr ih =>
  have:xs= []:=by simpa [Zm9] using hf
  subst this;exact .emp cl _ cap (fun h=>by simpa using hcl h) hm (fun _ x hx=>by simp at hx;subst hx;rfl)
 | agg cs a hs _ ih=>exact .agg cs a hs fun j c hj=>ih j c hj (VE (by simpa [Zm9] using hf) j c hj)
def vw (H:List Obj):V->Option V
 | .p x=>some (.p x)
 | .fn f [] []=>some (.fn f [] [])
 | .sl o off len tot=>match oat H o with
  | .elems _ xs=>if xs.length=tot/\off+len<=tot then some (.p (.list false ((xs.take (off+len)).drop off))) else none
  | _=>none
 | _=>none
def vws (H:List Obj):List V->Option (List V)
 | []=>some []
 | x::l=>match vw H x,vws H l with | some y,some ys=>some (y::ys) | _,_=>none
abbrev Zcy : Nat->Prop:=fun _=>False
theorem Qo {b:Nat} : ¬Own Zcy [] b:=by simp [Own]
theorem Zyt {F H ι w x v y} (hr:Rel F H ι w) (h:RV F H ι w x v) (hy:vw H x=some y):RV Zcy [] [] w y v:=by
 unfold vw at hy
 split at hy
 ·simp at hy;subst hy
  cases h with | p _ _ h=>exact .p _ _ (h.weaker fun b hb=>absurd hb Qo)
 ·simp at hy;subst hy;generalize v=u at h
  cases h with
  | fn _ _ _ a e hs ht _ _=>exact .fn _ [] [] a e hs ht (fun j c hj=>by simp at hj) (fun j c hj=>by simp at hj)
 ·rename_i o off len tot
  split at hy
  ·rename_i S xs ho
   split at hy
   ·rename_i hc;simp at hy;subst hy;exact .p _ _ (JM _ (fun b _ hb=>Qo hb) (fun b _ hs=>⟨Qo,hs,rfl⟩) hr (ZE ho (by simp)) hc.1 hc.2 h)
   ·cases hy
  ·cases hy
 ·cases hy
theorem Zg2 {H} : ∀ {l l':List V},vws H l=some l'->l'.length=l.length/\ ∀(j:Nat) (y:V),l'[j]? =some y-> ∃x,l[j]? =some x/\vw H x=some y
 | [],l',h=>by simp [vws] at h;subst h;exact ⟨rfl,fun j y hj=>by simp at hj⟩
 | x::l,l',h=>by
  simp only [vws] at h
  split at h
  ·rename_i y ys h1 h2;simp at h;subst h;obtain ⟨e,hg⟩:=Zg2 h2;refine ⟨by simp [e],fun j z hj=> ?_⟩
   cases j with
   | zero=>simp at hj;subst hj;exact ⟨x,by simp,h1⟩
   | succ j=>obtain ⟨q,q1,q2⟩:=hg j z (by simpa using hj);exact ⟨q,by simpa using q1,q2⟩
  ·cases h
theorem Good.lift {F H ι w H1 ι1 w'} (hr:Rel F H ι w) (g:Good Zcy [] [] w H1 ι1 w') (h1: ∀(o:Nat) (ob:Obj),H1[o]? =some ob-> ∃S xs,ob= .elems S xs/\ZhL xs=true):Good (Own F ι) [] [] w H1 ι1 w':=by
 have hnew: ∀b,some b∈ι1-> ¬b<w.heap.size:=fun b hb hlt=>g.own b hlt (by simp) hb
 have hold: ∀b,Own F ι b->b<w.heap.size:=fun b hb=>by
  rcases hb with hb | hb
  ·exact hr.fin b hb
  ·obtain ⟨i,hi⟩:=List.mem_iff_getElem?.1 hb;exact (hr.avo i b hi).2
 refine Good.up hr.env.fresh ⟨⟨g.rel.len,fun b hb=>by have:=hold b hb;have:=g.size;omega,g.rel.inj,fun i b hi=> ?_,fun o cs ho=> ?_,fun o S xs ho=> ?_,fun o es ho=>(by obtain ⟨S,xs,e,_⟩:=h1 o _ ho;cases e),fun o T E r bs ho=>(by obtain ⟨S,xs,e,_⟩:=h1 o _ ho;cases e)⟩,g.os,g.tape,g.output,g.shape,g.size,g.keep,g.own,g.hx⟩
 ·refine ⟨fun hb=>hnew b (List.mem_of_getElem? hi) (hold b hb),(g.rel.avo i b hi).2⟩
 ·obtain ⟨S,xs,e,_⟩:=h1 o _ ho
  cases e
 ·rcases g.rel.elm o S xs ho with e | ⟨b,c,t,cap,e1,e2,e3,e4,e5,e6,e7⟩
  ·exact .inl e
  ·refine .inr ⟨b,c,t,cap,e1,e2,e3,e4,e5,e6,fun i x j y hi hj=> ?_⟩;obtain ⟨S',xs',e,hf⟩:=h1 o _ ho;simp at e;obtain ⟨rfl,rfl⟩:=e;have hx:=VE hf i x hi;refine (e7 i x j y hi hj).anywhere ?_
   cases x<;>simp only [PV.cells] at hj
   case agg cs=>exact VE (by simpa [Zm9] using hx) j y hj
   all_goals (cases j with
    | zero=>simp at hj;subst hj;exact hx
    | succ j=>simp at hj)
theorem KW {w:World} (he:Env Zcy [] w):Rel Zcy [] [] w:=⟨⟨rfl,fun b hb=>hb.elim,fun i j b hi=>by simp at hi,fun i b hi=>by simp at hi,fun o cs ho=>by simp at ho,fun o S xs ho=>by simp at ho,fun o es ho=>by simp at ho,fun o T E r bs ho=>by simp at ho⟩,he⟩
theorem ACalls.view {P g args args'} {y:PV} {H:List Obj} {K:V->List Obj->Prop} (h:ACalls P g args' [] fun x H'=>x= .p y/\H'= []) (hv:vws H args=some args') (hy:Zm9 y=true) (k:K (.p y) H):ACalls P g args H K:=by
 refine ⟨h.1,fun F ι w vs hr hvs=> ?_⟩;obtain ⟨e,hg⟩:=Zg2 hv;refine (h.2 Zcy [] w vs (KW hr.env.noth) ⟨by rw [hvs.1,e],fun j c hj=> ?_⟩).mono ?_
 ·obtain ⟨x,h1,h2⟩:=hg j c hj;exact Zyt hr (hvs.2 j x h1) h2
 ·rintro e w' ⟨x,H',ι',v,rfl,⟨rfl,rfl⟩,gd,rv⟩;have g2:=(gd.lift hr (fun o ob ho=>by simp at ho)).behind hr;have hι:ι'= []:=List.eq_nil_of_length_eq_zero gd.rel.len;subst hι;simp only [List.map_nil,List.append_nil] at g2
  cases rv with | p _ _ rp =>
  exact ⟨_,H,ι,v,rfl,k,g2,.p _ _ (rp.anywhere hy)⟩
def rd1 (H:List Obj):V->Option PV
 | .p x=>some x
 | .sl o off len tot=>match oat H o with
  | .elems _ xs=>if xs.length=tot/\off+len<=tot then some (.list false ((xs.take (off+len)).drop off)) else none
  | _=>none
 | _=>none
def rds (H:List Obj):List V->Option (List PV)
 | []=>some []
 | x::l=>match rd1 H x,rds H l with | some y,some ys=>some (y::ys) | _,_=>none
def rd (H:List Obj):V->Option PV
 | .agg cs=>(rds H cs).map .agg
 | x=>rd1 H x
attribute [go_sem] Option.map_none
end Go.AM
set_option linter.unusedVariables false
set_option linter.unusedSimpArgs false
namespace Go.Proofs.YthmplgaldjpgiaaGreatDoor.K
open Go Go.AM
def Ed (be:List (Int×Int)) (a b:Nat):Prop:= ∃p∈be,p.1=(a:Int)/\p.2=(b:Int)
inductive Ch (be:List (Int×Int)):Nat->Nat->Prop where
 | one {a b} (h:Ed be a b):Ch be a b
 | more {a b c} (h:Ch be a b) (k:Ed be b c):Ch be a c
def Val (n:Nat) (be:List (Int×Int)):Prop:= ∀p∈be,0<=p.1/\p.1<n/\0<=p.2/\p.2<n
def cst (out:List Nat) (p:Int×Int):List Nat:=out.set p.2.toNat (nth out p.2.toNat|||nth out p.1.toNat|||pw p.1.toNat)
def pas (out:List Nat) (be:List (Int×Int)):List Nat:=be.foldl cst out
structure Snd (n:Nat) (be:List (Int×Int)) (out:List Nat):Prop where
 len:out.length=n
 lt: ∀b,b<n->nth out b<pw n
 snd: ∀a b,b<n->(nth out b).testBit a=true->Ch be a b
structure Clo (n:Nat) (be:List (Int×Int)) (out:List Nat):Prop extends Snd n be out where
 cmp: ∀a b,Ch be a b->(nth out b).testBit a=true
theorem ZaJ (l:List Nat) (i j v:Nat) (h:j<l.length):nth (l.set i v) j=if i=j then v else nth l j:=by
 simp only [nth,List.getD_eq_getElem?_getD,List.getElem?_set]
 by_cases hij:i=j
 ·subst hij;simp [h]
 ·simp [hij]
theorem Snd.zero (n be):Snd n be (List.replicate n 0):=by
 refine ⟨by simp,fun b hb=> ?_,fun a b hb h=> ?_⟩
 ·rw [Zd (by simpa using hb)];simp [Zf7]
 ·rw [Zd (by simpa using hb)] at h;simp at h
theorem Ui (a b:Nat):(pw a).testBit b=decide (a=b):=by simp [pw,Nat.testBit_two_pow]
theorem Snd.step {n be out} (hv:Val n be) (hs:Snd n be out) {p} (hp:p∈be):Snd n be (cst out p):=by
 obtain ⟨h1,h2,h3,h4⟩:=hv p hp;refine ⟨by simp [cst,hs.len],fun b hb=> ?_,fun a b hb h=> ?_⟩
 ·rw [cst,ZaJ _ _ _ _ (by rw [hs.len];exact hb)]
  split
  ·have e1:=hs.lt p.2.toNat (by omega);have e2:=hs.lt p.1.toNat (by omega)
   have e3:pw p.1.toNat<pw n:=by
    have:=Znz p.1.toNat;have h5:pw (p.1.toNat+1)<=pw n:=Ze6 (by omega);have:=Zf7 p.1.toNat;omega
   exact Nat.or_lt_two_pow (Nat.or_lt_two_pow e1 e2) e3
  ·exact hs.lt b hb
 ·rw [cst,ZaJ _ _ _ _ (by rw [hs.len];exact hb)] at h
  split at h
  ·rename_i hb2;have hE:Ed be p.1.toNat b:=⟨p,hp,by omega,by omega⟩;simp only [Nat.testBit_or,Bool.or_eq_true] at h;rcases h with (h | h) | h
   ·exact hs.snd a b hb (by rw [<- hb2];exact h)
   ·exact (hs.snd a _ (by omega) h).more hE
   ·rw [Ui] at h;simp at h;subst h;exact .one hE
  ·exact hs.snd a b hb h
theorem Snd.rnd {n be out} (hv:Val n be) (hs:Snd n be out): ∀(l:List (Int×Int)),(∀p∈l,p∈be)->Snd n be (pas out l):=by
 intro l
 induction l generalizing out with
 | nil=>intro _;exact hs
 | cons p l ih=>intro h;exact ih (hs.step hv (h p (by simp))) fun q hq=>h q (by simp [hq])
theorem Zp9 (x y:Nat):x<=x|||y:=Nat.left_le_or
def tot (l:List Nat):Nat:=l.foldr (· + ·) 0
theorem Zgv : ∀(l:List Nat) (i v:Nat),i<l.length->tot (l.set i v)+nth l i=tot l+v
 | [],i,v,h=>by simp at h
 | x::l,0,v,h=>by simp [tot,nth];omega
 | x::l,i+1,v,h=>by
  have:=Zgv l i v (by simpa using h);simp only [List.set_cons_succ,tot,List.foldr_cons,nth,List.getD_cons_succ] at this ⊢;omega
theorem Zld : ∀(l:List Nat) (m:Nat),(∀i,i<l.length->nth l i<m)->tot l<=l.length*m
 | [],m,h=>by simp [tot]
 | x::l,m,h=>by
  have h0:=h 0 (by simp)
  have:=Zld l m fun i hi=>by have:=h (i+1) (by simpa using hi);simpa [nth] using this
  simp only [tot,List.foldr_cons,List.length_cons,Nat.add_mul,nth,List.getD_cons_zero] at this h0 ⊢;omega
theorem ZhM (out:List Nat) (p:Int×Int) (h:p.2.toNat<out.length):tot out<=tot (cst out p)/\(tot (cst out p)=tot out->cst out p=out):=by
 have e:=Zgv out p.2.toNat (nth out p.2.toNat|||nth out p.1.toNat|||pw p.1.toNat) h;have h1:nth out p.2.toNat<=nth out p.2.toNat|||nth out p.1.toNat|||pw p.1.toNat:=Nat.le_trans (Zp9 _ _) (Zp9 _ _);refine ⟨by rw [cst];omega,fun he=> ?_⟩;rw [cst] at he ⊢
 have:nth out p.2.toNat|||nth out p.1.toNat|||pw p.1.toNat=nth out p.2.toNat:=by omega
 rw [this];apply List.ext_getElem (by simp);intro i h2 h3;rw [List.getElem_set]
 split
 ·rename_i h4;subst h4;rw [Zd h]
 ·rfl
theorem ZfB (out l m):pas out (l++m)=pas (pas out l) m:=by simp [pas,List.foldl_append]
theorem QZ {n be} (hv:Val n be): ∀(l:List (Int×Int)) (out:List Nat),(∀p∈l,p∈be)->Snd n be out->tot out<=tot (pas out l)/\(tot (pas out l)=tot out->pas out l=out/\ ∀p∈l,cst out p=out)
 | [],out,_,_=>⟨Nat.le_refl _,fun _=>⟨rfl,fun p hp=>by simp at hp⟩⟩
 | p::l,out,hl,hs=>by
  obtain ⟨h1,h2,h3,h4⟩:=hv p (hl p (by simp));have c:=ZhM out p (by rw [hs.len];omega);have r:=QZ hv l (cst out p) (fun q hq=>hl q (by simp [hq])) (hs.step hv (hl p (by simp)));refine ⟨Nat.le_trans c.1 r.1,fun e=> ?_⟩;have e:tot (pas (cst out p) l)=tot out:=e
  have e1:tot (cst out p)=tot out:=by have:=r.1;have:=c.1;omega
  have e2:=c.2 e1
  have e3:tot (pas (cst out p) l)=tot (cst out p):=by rw [e1];exact e
  obtain ⟨e4,e5⟩:=r.2 e3;rw [e2] at e4 e5;refine ⟨by show pas (cst out p) l=out;rw [e2];exact e4,fun q hq=> ?_⟩;rcases List.mem_cons.1 hq with rfl | hq
  ·exact e2
  ·exact e5 q hq
theorem Snd.clo {n be out} (hv:Val n be) (hs:Snd n be out) (h:tot (pas out be)=tot out):Clo n be out:=by
 have hc:=((QZ hv be out (fun _ h=>h) hs).2 h).2
 have key: ∀p∈be,∀a,(a=p.1.toNat\/(nth out p.1.toNat).testBit a=true)->(nth out p.2.toNat).testBit a=true:=fun p hp a ha=>by
  obtain ⟨h1,h2,h3,h4⟩:=hv p hp;have e:=hc p hp
  have e2:nth (cst out p) p.2.toNat=nth out p.2.toNat:=by rw [e]
  rw [cst,ZaJ _ _ _ _ (by rw [hs.len];omega)] at e2;simp only [if_true] at e2;rw [<- e2];simp only [Nat.testBit_or,Bool.or_eq_true,Ui,decide_eq_true_eq];rcases ha with rfl | ha
  ·exact .inr rfl
  ·exact .inl (.inr ha)
 refine ⟨hs,fun a b hab=> ?_⟩
 induction hab with
 | one h =>
  obtain ⟨p,hp,e1,e2⟩:=h;have:=key p hp p.1.toNat (.inl rfl);rwa [e1,e2] at this
 | more _ h ih =>
  obtain ⟨p,hp,e1,e2⟩:=h;have:=key p hp _ (.inr (by rw [e1];exact ih));rwa [e2] at this
theorem Clo.uniq {n be out out'} (hv:Val n be) (h:Clo n be out) (h':Clo n be out'):out=out':=by
 apply List.ext_getElem (by rw [h.len,h'.len]);intro b h1 h2;rw [<- Zd h1,<- Zd h2];apply Nat.eq_of_testBit_eq;intro a;rw [Bool.eq_iff_iff];rw [h.len] at h1;exact ⟨fun e=>h'.cmp a b (h.snd a b h1 e),fun e=>h.cmp a b (h'.snd a b h1 e)⟩
theorem Snd.bound {n be out} (hs:Snd n be out):tot out<=n*pw n:=by
 have:=Zld out (pw n) fun i hi=>hs.lt i (by rw [<- hs.len];exact hi);rwa [hs.len] at this
theorem Zl6 {n be} (hv:Val n be): ∀(k:Nat) (out:List Nat),Snd n be out->n*pw n-tot out<k-> ∃out',Clo n be out'
 | 0,out,_,h=>by omega
 | k+1,out,hs,h=>by
  by_cases he:tot (pas out be)=tot out
  ·exact ⟨out,hs.clo hv he⟩
  ·have hp:=hs.rnd hv be fun _ h=>h;have:=hp.bound;have:=(QZ hv be out (fun _ h=>h) hs).1;exact Zl6 hv k (pas out be) hp (by omega)
noncomputable def V5 (n:Nat) (be:List (Int×Int)):List Nat:=open Classical in if h: ∃out,Clo n be out then h.choose else []
theorem Zb1 {n be} (hv:Val n be):Clo n be (V5 n be):=by
 have h:=Zl6 hv _ (List.replicate n 0) (Snd.zero n be) (Nat.lt_succ_self _);rw [V5,dif_pos h];exact h.choose_spec
theorem Zjf {n be out} (hv:Val n be) (h:Clo n be out):V5 n be=out:=(Zb1 hv).uniq hv h
theorem Y6 {n be} (hv:Val n be) (a b:Nat) (hb:b<n):(nth (V5 n be) b).testBit a=true↔Ch be a b :=
 ⟨(Zb1 hv).snd a b hb,(Zb1 hv).cmp a b⟩
end Go.Proofs.YthmplgaldjpgiaaGreatDoor.K
