/- Declarations that the closing texts need, part 4: joined by tools/slim.py. -/
import Derived.Test.YtgknhiknjimdpaaGreatDoorZ3
set_option linter.unusedVariables false
set_option linter.unusedSimpArgs false
universe u
namespace Go.AM
open Go.RowKit
structure Tk {α:Sort u} (a:α):Type where
def Zw {α:Sort u} (a:α) (_:Tk a):α:=a
@[go_sem] theorem Zgu {α β:Type} {f:α->β} {t x} :Zw f t x=f x:=Eq.trans rfl rfl
@[go_sem ↓] theorem ZfH {α β:Type} {f:α->β->Prop} {t x y} :Zw f t x y=f x y:=Eq.trans rfl rfl
@[go_sem ↓] theorem Zg7 {α β γ:Type} {f:α->β->γ->Prop} {t x y z} :Zw f t x y z=f x y z:=Eq.trans rfl rfl
def pst (x:Option V) (K:V->Prop):Prop:=match x with | some v=>K v | none=>False
def mst (x:Option (V×List Obj)) (K:V->List Obj->Prop):Prop:=match x with | some (v,H)=>K v H | none=>False
def bst (x:V) (K:Bool->Prop):Prop:=match x with | .p (.bool b)=>K b | _=>False
def hst (x:Option (List Obj)) (K:List Obj->Prop):Prop:=match x with | some H=>K H | none=>False
@[go_sem ↓, go_sem] theorem Zjp {v K} :pst (some v) K=K v:=Eq.trans rfl rfl
@[go_sem ↓, go_sem] theorem ZjD {v H K} :mst (some (v,H)) K=K v H:=Eq.trans rfl rfl
@[go_sem ↓, go_sem] theorem Zj3 {H K} :hst (some H) K=K H:=Eq.trans rfl rfl
@[congr] theorem Zg5 {x x' K} (h:x=x'):pst x K=pst x' K:=by rw [h]
@[congr] theorem Zgb {x x' K} (h:x=x'):mst x K=mst x' K:=by rw [h]
@[congr] theorem Zhf {x x' K} (h:x=x'):hst x K=hst x' K:=by rw [h]
def idF (fr:List V):List V:=fr
@[go_sem] theorem Zn0 {fr} :idF fr=fr:=Eq.trans rfl rfl
section code
variable {cuts : List Nat} {P : Program} {fr : List V} {H : List Obj} {Q : Exit -> List V -> List Obj -> Prop}
@[go_sem ↓] theorem Zgc : awp cuts P .skip fr H Q=Q .normal fr H:=Eq.trans rfl rfl
@[go_sem ↓] theorem Zez {id} {l:List Oper} :awp cuts P (.region id l.toArray false) fr H Q=XK P (l.map (·.dst)) l (idF fr) H (Zw (Q .normal) ⟨⟩):=by simp [awp,idF,Zw]
@[go_sem ↓] theorem Ze9 {id ops} :awp cuts P (.region id ops true) fr H Q=AWP P (.region id (Zw ops ⟨⟩) true) fr H (Zw Q ⟨⟩):=by simp [awp,Zw]
@[go_sem ↓] theorem Zj6 {x y} :awp [] P (.seq x y) fr H Q=awp [] P x fr H (Y2 (fun fr H=>awp [] P y fr H Q) Q):=by
 rw [awp];cases hid x<;>simp
def ZcX (b:Bool) (A B:Prop):Prop:=if b then A else B
def Qn (cuts:List Nat):Option Nat->Bool
 | some i=>cuts.contains i
 | none=>false
@[go_sem ↓] theorem Zf5 {k x y} :awp (k::cuts) P (.seq x y) fr H Q=ZcX (Qn (k::cuts) (hid x)) (Zw (AWP P (.seq (Zw x ⟨⟩) (Zw y ⟨⟩)) fr H (Zw Q ⟨⟩)) ⟨⟩) (Zw (awp (k::cuts) P x fr H (Y2 (fun fr H=>awp (k::cuts) P y fr H Q) Q)) ⟨⟩):=by
 rw [awp];cases hid x<;>simp [ZcX,Qn,Zw]
@[go_sem ↓, go_sem] theorem Zf4 {A B:Prop} {t} :ZcX true (Zw A t) B=A:=by simp [ZcX,Zw]
@[go_sem ↓, go_sem] theorem Ze8 {A B:Prop} {t} :ZcX false A (Zw B t)=B:=by simp [ZcX,Zw]
theorem JI {b b' A B} (h:b=b'):ZcX b A B=ZcX b' A B:=by rw [h]
@[go_sem ↓] theorem Ze2 {id ops d} :hid (.region id ops d)=some id:=Eq.trans rfl rfl
@[go_sem ↓] theorem ZkT {x y} :hid (.seq x y)=hid x:=Eq.trans rfl rfl
@[go_sem ↓] theorem ZfZ {id c} :hid (.block id c)=hid c:=Eq.trans rfl rfl
@[go_sem ↓] theorem ZiR {c x y} :hid (.cond c x y)=none:=Eq.trans rfl rfl
@[go_sem] theorem Zfn : Qn cuts none=false:=Eq.trans rfl rfl
@[go_sem] theorem ZhM {i} :Qn [] (some i)=false:=Eq.trans rfl rfl
@[go_sem] theorem Zfh {k i} :Qn (k::cuts) (some i)=(decide (i=k)||Qn cuts (some i)):=by by_cases h:i=k<;>simp [Qn,h]
@[go_sem ↓] theorem Zhj {c x y} :awp cuts P (.cond c x y) fr H Q=Yi (ev fr c) (Zw (awp cuts P x fr H Q) ⟨⟩) (Zw (awp cuts P y fr H Q) ⟨⟩):=Eq.trans rfl rfl
@[go_sem ↓] theorem Ze0 {id c} :awp cuts P (.block id c) fr H Q=awp cuts P c fr H (X4 id Q):=Eq.trans rfl rfl
@[go_sem ↓] theorem ZgL {id} :awp cuts P (.exit id) fr H Q=Q (.exit id) fr H:=Eq.trans rfl rfl
@[go_sem ↓] theorem ZjX : awp cuts P .ret fr H Q=Q .ret fr H:=Eq.trans rfl rfl
@[go_sem ↓] theorem Zgs {c} :awp cuts P (.loop c) fr H Q=AWP P (.loop (Zw c ⟨⟩)) fr H (Zw Q ⟨⟩):=Eq.trans rfl rfl
@[go_sem ↓] theorem ZgM {c t} :awp cuts P (Zw c t) fr H Q=awp cuts P c fr H Q:=Eq.trans rfl rfl
theorem KD {c fr' H'} (h:fr=fr') (h2:H=H'):awp cuts P c fr H Q=awp cuts P c fr' H' Q:=by rw [h,h2]
theorem Zah {c fr' H'} (h:fr=fr') (h2:H=H'):AWP P c fr H Q=AWP P c fr' H' Q:=by rw [h,h2]
@[go_sem ↓] theorem Zdf {A:List V->List Obj->Prop} :Y2 A Q .normal fr H=A fr H:=Eq.trans rfl rfl
@[go_sem ↓] theorem ZeV {A:List V->List Obj->Prop} {id} :Y2 A Q (.exit id) fr H=Q (.exit id) fr H:=Eq.trans rfl rfl
@[go_sem ↓] theorem ZgC {A:List V->List Obj->Prop} :Y2 A Q .ret fr H=Q .ret fr H:=Eq.trans rfl rfl
@[go_sem ↓] theorem Zbq {id} :X4 id Q .normal fr H=Q .normal fr H:=Eq.trans rfl rfl
@[go_sem ↓] theorem ZfC {id} :X4 id Q .ret fr H=Q .ret fr H:=Eq.trans rfl rfl
@[go_sem ↓] theorem ZdA {id id'} :X4 id Q (.exit id') fr H=if id'=id then Q .normal fr H else Q (.exit id') fr H:=Eq.trans rfl rfl
theorem Qt {A:List V->List Obj->Prop} {e fr' H'} (h:fr=fr') (h2:H=H'):Y2 A Q e fr H=Y2 A Q e fr' H':=by rw [h,h2]
theorem Uw {id e fr' H'} (h:fr=fr') (h2:H=H'):X4 id Q e fr H=X4 id Q e fr' H':=by rw [h,h2]
@[go_sem ↓] theorem ZdM {rs} {Q:V->List Obj->Prop} :V8 P rs Q .normal fr H=mst ((ZV P fr H rs).map fun xs=>(XA xs,H)) (Zw Q ⟨⟩):=by
 simp only [V8,Zw];split<;>simp_all [mst]
@[go_sem ↓] theorem ZjU {rs} {Q:V->List Obj->Prop} :V8 P rs Q .ret fr H=mst ((ZV P fr H rs).map fun xs=>(XA xs,H)) (Zw Q ⟨⟩):=by
 simp only [V8,Zw];split<;>simp_all [mst]
theorem Ke {rs e fr' H'} {Q:V->List Obj->Prop} (h:fr=fr') (h2:H=H'):V8 P rs Q e fr H=V8 P rs Q e fr' H':=by rw [h,h2]
@[go_sem] theorem Ze4 : ZV P fr H []=some []:=Eq.trans rfl rfl
@[go_sem] theorem Zfu {t l} :ZV P fr H (.tmp t::l)=(ZV P fr H l).map (gt fr t:: ·):=by
 simp only [ZV,ZeU];cases ZV P fr H l<;>rfl
@[go_sem] theorem Zdm {a t l} :ZV P fr H (.cell a t::l)=(Y1 P H t (gt fr a)).bind fun x=>(ZV P fr H l).map (x:: ·):=by
 simp only [ZV,ZeU];cases Y1 P H t (gt fr a)<;>cases ZV P fr H l<;>rfl
@[go_sem] theorem Zfm {x} :XA [x]=x:=Eq.trans rfl rfl
@[go_sem] theorem ZeA : XA []= .tup []:=Eq.trans rfl rfl
@[go_sem] theorem JV {x y l} :XA (x::y::l)= .tup (x::y::l):=Eq.trans rfl rfl
end code
attribute [congr] JI KD Zah Qt Uw Ke
@[go_sem] theorem Zm0 {x:V} {l} :gt (x::l) 0=x:=Eq.trans rfl rfl
@[go_sem] theorem Zm3 {x:V} {l n} :gt (x::l) (n+1)=gt l n:=Eq.trans rfl rfl
@[go_sem] theorem ZlM {x v:V} {l} :pt (x::l) 0 v=v::l:=Eq.trans rfl rfl
@[go_sem] theorem Zlz {x v:V} {l n} :pt (x::l) (n+1) v=x::pt l n v:=Eq.trans rfl rfl
@[go_sem] theorem Zi0 {fr d v} :ptO fr (some d) v=pt fr d v:=Eq.trans rfl rfl
@[go_sem] theorem ZkL {fr v} :ptO fr none v=fr:=Eq.trans rfl rfl
@[go_sem] theorem ZjF {x:Obj} {l} :oat (x::l) 0=x:=Eq.trans rfl rfl
@[go_sem] theorem Zip {x:Obj} {l n} :oat (x::l) (n+1)=oat l n:=Eq.trans rfl rfl
@[go_sem] theorem ZkG {x v:Obj} {l} :ost (x::l) 0 v=v::l:=Eq.trans rfl rfl
@[go_sem] theorem ZiX {x v:Obj} {l n} :ost (x::l) (n+1) v=x::ost l n v:=Eq.trans rfl rfl
@[go_sem] theorem Zln {fr t} :evx fr (.tmp t)=gt fr t:=Eq.trans rfl rfl
@[go_sem] theorem ZnE {fr t} :ev fr (.tmp t)=gt fr t:=Eq.trans rfl rfl
@[go_sem] theorem Znd {fr f} :ev fr (.func f)= .fn (.func f) [] []:=Eq.trans rfl rfl
@[go_sem] theorem Znm {fr k n} :ev fr (.const (.int k n))= .p (.int k n):=Eq.trans rfl rfl
@[go_sem] theorem ZmW {fr b} :ev fr (.const (.bool b))= .p (.bool b):=Eq.trans rfl rfl
@[go_sem] theorem Zos {fr s} :ev fr (.const (.string s))= .p (.str s.data.toList):=Eq.trans rfl rfl
@[go_sem] theorem Zlq {fr} :ev fr (.const (.slice none 0 0))= .p (.list true []):=Eq.trans rfl rfl
@[go_sem] theorem Zoa {fr l} :ev fr (.const (.agg (List.toArray l)))=match cvs l with | some xs=> .p (.agg xs) | none=> .junk:=Eq.trans rfl rfl
@[go_sem] theorem Zjf {fr d} {l:List (Option Nat)} :gAt fr (some d::l) 0=gt fr d:=by simp [gAt]
@[go_sem] theorem ZjC {fr o n} {l:List (Option Nat)} :gAt fr (o::l) (n+1)=gAt fr l n:=by simp [gAt]
section ops
variable {P : Program} {fr : List V} {H : List Obj} {ds : List (Option Nat)} {K : List V -> List Obj -> Prop} {r : List Oper} {d : Option Nat} {t : TypeId} {ps : String} {af : Array Edge} {g : Option (Nat × Bool)} {k : V -> List Obj -> Prop}
theorem JQ {l fr' H'} (h:fr=fr') (h2:H=H'):XK P ds l fr H K=XK P ds l fr' H' K:=by rw [h,h2]
theorem Qv {o fr' H'} (h:fr=fr') (h2:H=H'):Zl P o fr H k=Zl P o fr' H' k:=by rw [h,h2]
@[go_sem ↓] theorem Zjv : XK P ds [] fr H K=K fr H:=Eq.trans rfl rfl
@[go_sem] theorem Zhw {op} :XK P ds (⟨d,op,t,ps,af,none⟩::r) fr H K=Zl P ⟨d,op,t,ps,af,none⟩ fr H (Zw (fun x H'=>XK P ds r (ptO fr d x) H' K) ⟨⟩):=Eq.trans rfl rfl
@[go_sem] theorem Zfo {op j b} :XK P ds (⟨d,op,t,ps,af,some (j,b)⟩::r) fr H K=ZK (gAt fr ds j) b (Zw (Zl P ⟨d,op,t,ps,af,none⟩ fr H (Zw (fun x H'=>XK P ds r (ptO fr d x) H' K) ⟨⟩)) ⟨⟩) (Zw (XK P ds r (ptO fr d (.tup [])) H K) ⟨⟩):=by
 simp only [XK,Zw];unfold ZK
 split<;>rfl
theorem Zx {op:Op} (h:ZX op=none) (h2:Yh P op fr H=none):Zl P ⟨d,op,t,ps,af,g⟩ fr H k=pst (Zt P op fr H) fun x=>k x H:=by
 simp only [Zl,h,aop,h2]
 all_goals (cases Zt P op fr H<;>rfl)
theorem XF {op:Op} (h:ZX op=none) (h2:Zt P op fr H=none):Zl P ⟨d,op,t,ps,af,g⟩ fr H k=mst (Yh P op fr H) k:=by
 simp only [Zl,h,aop,h2,mst]
 all_goals (cases Yh P op fr H<;>rfl)
@[go_sem ↓] theorem Ze1 {x} :Zl P ⟨d,.move x,t,ps,af,g⟩ fr H k=k (ev fr x) H:=by rw [Zx rfl rfl];rfl
@[go_sem ↓] theorem Zdb {x} :Zl P ⟨d,.assign x,t,ps,af,g⟩ fr H k=k (ev fr x) H:=by rw [Zx rfl rfl];rfl
def vif (b:Bool) (x y:V):V:=if b then x else y
@[go_sem] theorem Zi9 {x y} :vif true x y=x:=Eq.trans rfl rfl
@[go_sem] theorem Zif {x y} :vif false x y=y:=Eq.trans rfl rfl
@[go_sem] theorem Zio {b x y} :vif b (.p (.bool x)) (.p (.bool y))= .p (.bool (if b then x else y)):=by cases b<;>rfl
@[go_sem] theorem ZiJ {b} :asB (.p (.bool b))=some b:=Eq.trans rfl rfl
@[go_sem ↓] theorem ZeX {c x y} :Zl P ⟨d,.pick c x y,t,ps,af,g⟩ fr H k=pst ((asB (ev fr c)).map fun b=>vif b (ev fr x) (ev fr y)) (Zw (fun v=>k v H) ⟨⟩):=by
 rw [Zx rfl rfl];simp only [Zt,ZS]
 cases asB (ev fr c)<;>rfl
@[go_sem ↓] theorem Zfe {u x} :Zl P ⟨d,.load u x,t,ps,af,g⟩ fr H k=pst (Y1 P H u (ev fr x)) (Zw (fun v=>k v H) ⟨⟩):=by rw [Zx rfl rfl];rfl
@[go_sem ↓] theorem Zgr {op u x y u2} :Zl P ⟨d,.binOp op u x y u2,t,ps,af,g⟩ fr H k=pst ((X9 P op u (ev fr x) (ev fr y)).map .p) (Zw (fun v=>k v H) ⟨⟩):=by rw [Zx rfl rfl];rfl
@[go_sem ↓] theorem Ziv {op u x} :Zl P ⟨d,.unOp op u x,t,ps,af,g⟩ fr H k=pst ((aun op (ev fr x)).map .p) (Zw (fun v=>k v H) ⟨⟩):=by rw [Zx rfl rfl];rfl
def Zeo (x y:Option PV):Option PV:=match x with | some z=>some z | none=>y
@[go_sem] theorem ZfD {z y} :Zeo (some z) y=some z:=Eq.trans rfl rfl
@[go_sem] theorem Zfg {y} :Zeo none y=y:=Eq.trans rfl rfl
@[go_sem ↓] theorem Zfr {s u x} :Zl P ⟨d,.convert s u x,t,ps,af,g⟩ fr H k=pst ((Zeo (Vc P H s u (ev fr x)) (Kv P s u (ev fr x))).map .p) (Zw (fun v=>k v H) ⟨⟩):=by
 rw [Zx rfl rfl];simp only [Zt,ZS]
 cases Vc P H s u (ev fr x)<;>rfl
@[go_sem ↓] theorem Zbj {f cs es} :Zl P ⟨d,.makeFunc f (List.toArray cs) (List.toArray es),t,ps,af,g⟩ fr H k=k (.fn f (cs.map (ev fr)) (es.map (ev fr))) H:=by rw [Zx rfl rfl];rfl
@[go_sem ↓] theorem ZdN {u x lo hi mx} :Zl P ⟨d,.slice u x lo hi mx,t,ps,af,g⟩ fr H k=pst (WK P H u fr (ev fr x) lo hi mx) (Zw (fun v=>k v H) ⟨⟩):=by rw [Zx rfl rfl];rfl
@[go_sem ↓] theorem ZaV {s x f} :Zl P ⟨d,.fieldAddr s x f,t,ps,af,g⟩ fr H k=pst (YI P H s f (ev fr x)) (Zw (fun v=>k v H) ⟨⟩):=by rw [Zx rfl rfl];rfl
@[go_sem ↓] theorem Zae {u x i} :Zl P ⟨d,.indexAddr u x i,t,ps,af,g⟩ fr H k=pst (Yn P H u (evx fr x) (ev fr i)) (Zw (fun v=>k v H) ⟨⟩):=by rw [Zx rfl rfl];rfl
@[go_sem ↓] theorem Zdj {u x i} :Zl P ⟨d,.index u x i,t,ps,af,g⟩ fr H k=pst (Zaa P u (ev fr x) (ev fr i)) (Zw (fun v=>k v H) ⟨⟩):=by rw [Zx rfl rfl];rfl
def axt (x:V) (i:Nat):Option V:=match x with | .tup vs=>vs[i]? | _=>none
@[go_sem] theorem Zm6 {vs i} :axt (.tup vs) i=vs[i]? :=Eq.trans rfl rfl
@[go_sem ↓] theorem Zcw {x i} :Zl P ⟨d,.extract x i,t,ps,af,g⟩ fr H k=pst (axt (ev fr x) i) (Zw (fun v=>k v H) ⟨⟩):=by
 rw [Zx rfl rfl];simp only [Zt,ZS]
 cases ev fr x<;>rfl
@[go_sem ↓] theorem ZdQ {u l} :Zl P ⟨d,.build u (List.toArray l),t,ps,af,g⟩ fr H k=pst (UM P H u (l.map fun x=>(x.1,ev fr x.2))) (Zw (fun v=>k v H) ⟨⟩):=by rw [Zx rfl rfl];rfl
@[go_sem ↓] theorem Zhe {x u} :Zl P ⟨d,.call ⟨.builtin .len,#[x],#[u]⟩,t,ps,af,g⟩ fr H k=pst ((Zgi P H u (ev fr x)).map .p) (Zw (fun v=>k v H) ⟨⟩):=by rw [Zx rfl rfl];rfl
@[go_sem ↓] theorem Zew {u} :Zl P ⟨d,.alloc u,t,ps,af,g⟩ fr H k=mst ((ZZ P u).map fun zs=>(.ptr H.length 0,H++ [.cells (zs.map .p)])) (Zw k ⟨⟩):=by rw [XF rfl rfl];rfl
@[go_sem ↓] theorem ZgB {u x} :Zl P ⟨d,.box u x,t,ps,af,g⟩ fr H k=mst ((vc H (ev fr x)).map fun cs=>(.ptr H.length 0,H++ [.cells cs])) (Zw k ⟨⟩):=by rw [XF rfl rfl];rfl
def Zl6 (H:List Obj) (n:Option Nat) (a:V) (cs:Option (List V)):Option (List Obj):=n.bind fun n=>cs.bind fun cs=>Wd H n a cs
@[go_sem] theorem ZhX {n a cs} :Zl6 H (some n) a (some cs)=Wd H n a cs:=Eq.trans rfl rfl
@[go_sem ↓] theorem Zdr {u x y} :Zl P ⟨d,.store u x y,t,ps,af,g⟩ fr H k=hst (Zl6 H (tsz P u) (ev fr x) (vc H (ev fr y))) (Zw (k .junk) ⟨⟩):=by
 rw [XF rfl rfl];simp only [Yh,Zl6]
 cases tsz P u<;>cases vc H (ev fr y)<;>simp [hst,mst,Zw]
 cases Wd H _ (ev fr x) _<;>rfl
@[go_sem ↓] theorem Kg {u n l} :Zl P ⟨d,.buildSlice u n (List.toArray l),t,ps,af,g⟩ fr H k=mst (Yh P (.buildSlice u n (List.toArray l)) fr H) (Zw k ⟨⟩):=by rw [XF rfl rfl];rfl
@[go_sem ↓] theorem Zac {u x y} :Zl P ⟨d,.makeSlice u x y,t,ps,af,g⟩ fr H k=mst (Yh P (.makeSlice u x y) fr H) (Zw k ⟨⟩):=by rw [XF rfl rfl];rfl
@[go_sem ↓] theorem Zc5 {x y u u2} :Zl P ⟨d,.call ⟨.builtin .append,#[x,y],#[u,u2]⟩,t,ps,af,g⟩ fr H k=mst (UJ P H u u2 (ev fr x) (ev fr y)) (Zw k ⟨⟩):=by rw [XF rfl rfl];rfl
@[go_sem ↓] theorem Ze6 {f azs ts} :Zl P ⟨d,.call ⟨.value f,List.toArray azs,ts⟩,t,ps,af,g⟩ fr H k=VD P (ev fr f) (azs.map (ev fr)) H (Zw k ⟨⟩):=Eq.trans rfl rfl
@[go_sem ↓] theorem Zka {f fs cs azs} :VD P (.fn (.func f) fs cs) azs H k=ACalls P f (fs++azs++cs) H k:=Eq.trans rfl rfl
theorem Qf {f f' azs as'} (h:f=f') (h2:azs=as'):VD P f azs H k=VD P f' as' H k:=by rw [h,h2]
theorem Uq {f azs as' H'} (h2:azs=as') (h3:H=H'):ACalls P f azs H k=ACalls P f as' H' k:=by rw [h2,h3]
theorem Qo {x x' A B} (h:x=x'):Yi x A B=Yi x' A B:=by rw [h]
theorem U5 {x x' b A B} (h:x=x'):ZK x b A B=ZK x' b A B:=by rw [h]
@[go_sem ↓, go_sem] theorem Ze5 {A:Prop} {t B'} :Yi (.p (.bool true)) (Zw A t) B'=A:=by simp [Yi,Zw]
@[go_sem ↓, go_sem] theorem Zec {B:Prop} {t B'} :Yi (.p (.bool false)) B' (Zw B t)=B:=by simp [Yi,Zw]
@[go_sem ↓, go_sem] theorem ZgF {A:Prop} {t B} :ZK (.p (.bool true)) true (Zw A t) B=A:=by simp [ZK,Zw]
@[go_sem ↓, go_sem] theorem ZhH {B:Prop} {t A} :ZK (.p (.bool true)) false A (Zw B t)=B:=by simp [ZK,Zw]
@[go_sem ↓, go_sem] theorem Zhq {B:Prop} {t A} :ZK (.p (.bool false)) true A (Zw B t)=B:=by simp [ZK,Zw]
@[go_sem ↓, go_sem] theorem ZgO {A:Prop} {t B} :ZK (.p (.bool false)) false (Zw A t) B=A:=by simp [ZK,Zw]
@[go_sem ↓, go_sem] theorem ZdH {b} {B:Prop} {t A} :ZK (.tup []) b A (Zw B t)=B:=by simp [ZK,Zw]
theorem ZO {c:Bool} {A B:Prop} {t t'} (h1:c=true->A) (h2:c=false->B):Yi (.p (.bool c)) (Zw A t) (Zw B t'):=⟨h1,h2⟩
theorem ZF {c:Bool} {A B:Prop} {t t'} (h1:c=true->A) (h2:c=false->B):ZK (.p (.bool c)) true (Zw A t) (Zw B t'):=⟨h1,fun h=>h2 (by simpa using h)⟩
theorem ZH {c:Bool} {A B:Prop} {t t'} (h1:c=true->B) (h2:c=false->A):ZK (.p (.bool c)) false (Zw A t) (Zw B t'):=⟨h2,fun h=>h1 (by simpa using h)⟩
class Dc (c:Bool) (p q:outParam Prop):Prop where
 t:c=true->p
 f:c=false->q
instance dcD {p : Prop} [Decidable p] : Dc (decide p) p (¬p) := ⟨of_decide_eq_true, of_decide_eq_false⟩
instance (priority := low) dcB {c : Bool} : Dc c (c = true) (c = false) := ⟨id, id⟩
theorem cD {c:Bool} {A B p q:Prop} {t t'} [d:Dc c p q] (h1:p->A) (h2:q->B):Yi (.p (.bool c)) (Zw A t) (Zw B t'):=ZO (fun h=>h1 (d.t h)) (fun h=>h2 (d.f h))
theorem gT {c:Bool} {A B p q:Prop} {t t'} [d:Dc c p q] (h1:p->A) (h2:q->B):ZK (.p (.bool c)) true (Zw A t) (Zw B t'):=ZF (fun h=>h1 (d.t h)) (fun h=>h2 (d.f h))
theorem gF {c:Bool} {A B p q:Prop} {t t'} [d:Dc c p q] (h1:p->B) (h2:q->A):ZK (.p (.bool c)) false (Zw A t) (Zw B t'):=ZH (fun h=>h1 (d.t h)) (fun h=>h2 (d.f h))
@[go_sem] theorem Zmz {p:Prop} [Decidable p]:(!decide p)=decide (¬p):=by simp
end ops
attribute [congr] JQ Qv Qf Uq Qo U5
section vals
variable {P : Program} {H : List Obj} {k : IntKind} {t u : TypeId}
@[go_sem] theorem ZiP {a b} :X9 P .add t (.p (.int k a)) (.p (.int k b))=some (.int k (k.wrap (a+b))):=by simp [X9,UU]
@[go_sem] theorem Zku {a b} :X9 P .sub t (.p (.int k a)) (.p (.int k b))=some (.int k (k.wrap (a-b))):=by simp [X9,UU]
@[go_sem] theorem ZiH {a b} (h:b≠0):X9 P .quo t (.p (.int k a)) (.p (.int k b))=some (.int k (k.wrap (a.tdiv b))):=by simp [X9,UU,h]
@[go_sem] theorem Ziy {a b} (h:b≠0):X9 P .rem t (.p (.int k a)) (.p (.int k b))=some (.int k (a.tmod b)):=by simp [X9,UU,h]
@[go_sem] theorem ZeD {a b} :X9 P .or t (.p (.int k a)) (.p (.int k b))=some (.int k (k.wrap ((BitVec.ofInt k.bits a|||BitVec.ofInt k.bits b).toNat:Int))):=by simp [X9,UU]
@[go_sem] theorem ZkI {a b} :X9 P .eql t (.p (.int k a)) (.p (.int k b))=some (.bool (decide (a=b))):=by simp [X9,UU]
@[go_sem] theorem ZiI {a b} :X9 P .neq t (.p (.int k a)) (.p (.int k b))=some (.bool (decide (¬a=b))):=by simp [X9,UU]
@[go_sem] theorem ZjK {a b} :X9 P .lss t (.p (.int k a)) (.p (.int k b))=some (.bool (decide (a<b))):=by simp [X9,UU]
@[go_sem] theorem Zkf {a b} :X9 P .leq t (.p (.int k a)) (.p (.int k b))=some (.bool (decide (a<=b))):=by simp [X9,UU]
@[go_sem] theorem ZkH {a b} :X9 P .gtr t (.p (.int k a)) (.p (.int k b))=some (.bool (decide (b<a))):=by simp [X9,UU]
@[go_sem] theorem Zjo {a b} :X9 P .geq t (.p (.int k a)) (.p (.int k b))=some (.bool (decide (b<=a))):=by simp [X9,UU]
@[go_sem] theorem Zbv {a b k'} (h:0<=b):X9 P .shl t (.p (.int k a)) (.p (.int k' b))=some (.int k (k.wrap (a*2^(min b.toNat k.bits)))):=by simp [X9,UU,show ¬b<0 by omega]
@[go_sem] theorem Zj9 {op a b} :X9 P op t (.p (.str a)) (.p (.str b))=Zb9 op a b:=Eq.trans rfl rfl
@[go_sem] theorem Zjc {a b} :Zb9 .eql a b=some (.bool (decide (a=b))):=Eq.trans rfl rfl
@[go_sem] theorem ZiM {a b} :Zb9 .neq a b=some (.bool (decide (¬a=b))):=by simp [Zb9]
@[go_sem] theorem ZbU {a b} (h:a.length+b.length<=9223372036854775807):Zb9 .add a b=some (.str (a++b)):=by simp [Zb9,h]
def Zoh (op:BinOp) (u:Option TypeDesc) (a b:Bool):Option PV:=match op,u with
  | .eql,some .bool=>some (.bool (a==b))
  | .neq,some .bool=>some (.bool (!(a==b)))
  | _,_=>none
end vals
attribute [irreducible] pst mst hst bst
end Go.AM
namespace Go.AM
open Go.RowKit
section vals
variable {P : Program} {H : List Obj} {k : IntKind} {t u : TypeId}
@[go_sem] theorem Zho {op a b} :X9 P op t (.p (.bool a)) (.p (.bool b))=Zoh op (P.underlying t) a b:=Eq.trans rfl rfl
@[go_sem] theorem Zkp {a b} :Zoh .eql (some .bool) a b=some (.bool (a==b)):=Eq.trans rfl rfl
def Zmq (g:Bool) (op:BinOp) (r:Option Bool):Option PV:=if g then none else match op with
 | .eql=>r.map .bool
 | .neq=>r.map fun r=> .bool (!r)
 | _=>none
@[go_sem] theorem Zj2 {op a b} :X9 P op t (.p (.agg a)) (.p (.agg b))=Zmq (P.eqGuardType P.depth t) op (YS P 9 t (.agg a) (.agg b)):=Eq.trans rfl rfl
@[go_sem] theorem Zix {b} :Zmq false .eql (some b)=some (.bool b):=Eq.trans rfl rfl
@[go_sem] theorem ZkF {b} :Zmq false .neq (some b)=some (.bool (!b)):=Eq.trans rfl rfl
def Kf (P:Program) (d:Nat) (t:TypeId) (D:Option TypeDesc) (x y:PV):Option Bool:=match D,x,y with
  | some .bool,.bool a,.bool b=>some (a==b)
  | some (.int _),.int k a,.int k' b=>if k=k' then some (decide (a=b)) else none
  | some .string,.str a,.str b=>some (decide (a=b))
  | some (.struct fs),.agg a,.agg b=>if P.stoodInHeld t then none else Jn (YS P d) P fs.toList a b
  | some (.array n e),.agg a,.agg b=>match tsz P e with | some m=>JP (YS P d e) P e m n 0 a b | none=>none
  | _,_,_=>none
@[go_sem] theorem Zhg {d x y} :YS P (d+1) t x y=Kf P d t (P.underlying t) x y:=Eq.trans rfl rfl
@[go_sem] theorem Zgm {d a b} :Kf P d t (some .bool) (.bool a) (.bool b)=some (a==b):=Eq.trans rfl rfl
@[go_sem] theorem Zit {d k0 a b} :Kf P d t (some (.int k0)) (.int k a) (.int k b)=some (decide (a=b)):=by simp [Kf]
theorem XJ {d fs a b} (h:P.stoodInHeld t=false):Kf P d t (some (.struct fs)) (.agg a) (.agg b)=Jn (YS P d) P fs.toList a b:=by simp [Kf,h]
theorem JB {d n e m a b} (h:tsz P e=some m):Kf P d t (some (.array n e)) (.agg a) (.agg b)=JP (YS P d e) P e m n 0 a b:=by simp [Kf,h]
def Qp (x y:Option Bool):Option Bool:=x.bind fun p=>y.map fun q=>p&&q
@[go_sem] theorem ZhR {p q} :Qp (some p) (some q)=some (p&&q):=Eq.trans rfl rfl
def eqP (f:PV->PV->Option Bool) (x y:Option PV):Option Bool:=x.bind fun x=>y.bind fun y=>f x y
@[go_sem] theorem ZkC {f x y} :eqP f (some x) (some y)=f x y:=Eq.trans rfl rfl
@[go_sem] theorem Wo {f a b} :Jn f P [] a b=some true:=Eq.trans rfl rfl
@[go_sem] theorem YB {f fi r a b} : Jn f P (fi :: r) a b = if fi.name = "_" then Jn f P r a b else Qp (eqP (f fi.type) (apart P fi.type a fi.offset) (apart P fi.type b fi.offset)) (Jn f P r a b) := by
 simp only [Jn]
 split
 ·rfl
 ·cases apart P fi.type a fi.offset<;>cases apart P fi.type b fi.offset<;>simp [eqP,Qp]
  rename_i x y
  cases f fi.type x y<;>cases Jn f P r a b<;>rfl
@[go_sem] theorem ZhE {f e n i a b} :JP f P e n 0 i a b=some true:=Eq.trans rfl rfl
@[go_sem] theorem ZhO {f e n i m a b} :JP f P e n (m+1) i a b=Qp (eqP f (apart P e a (i*n)) (apart P e b (i*n))) (JP f P e n m (i+1) a b):=by
 simp only [JP]
 cases apart P e a (i*n)<;>cases apart P e b (i*n)<;>simp [eqP,Qp]
 rename_i x y
 cases f x y<;>cases JP f P e n m (i+1) a b<;>rfl
def Zoz (g:Option Bool) (s:Option Nat) (cs:List PV) (off:Nat):Option PV:=match g,s with
 | some true,some n=>if off+n<=cs.length then some (.agg ((cs.drop off).take n)) else none
 | some false,_=>cs[off]?
 | _,_=>none
@[go_sem] theorem ZjQ {cs off} :apart P t cs off=Zoz (Xt P t) (tsz P t) cs off:=Eq.trans rfl rfl
@[go_sem] theorem ZkA {s cs off} :Zoz (some false) s cs off=cs[off]? :=Eq.trans rfl rfl
def QY (g:Option Bool) (s:Option Nat) (H:List Obj) (x:V):Option V:=match g,s with
 | some true,some n=>(XS H x n).map mkA
 | some false,_=>match XS H x 1 with
  | some (c::_)=>some c
  | _=>none
 | _,_=>none
def hdO (x:Option (List V)):Option V:=match x with | some (c::_)=>some c | _=>none
@[go_sem] theorem ZiY {c l} :hdO (some (c::l))=some c:=Eq.trans rfl rfl
@[go_sem] theorem Zkm {x} :Y1 P H t x=QY (Xt P t) (tsz P t) H x:=Eq.trans rfl rfl
@[go_sem] theorem Zff {s x} :QY (some false) s H x=hdO (XS H x 1):=by simp only [QY,hdO]
@[go_sem] theorem Zfl {n x} :QY (some true) (some n) H x=(XS H x n).map mkA:=Eq.trans rfl rfl
@[go_sem] theorem Zig {x j n} :XS H (.lp x j) n=if j+n<=x.cells.length then some (((x.cells.drop j).take n).map .p) else none:=Eq.trans rfl rfl
def ZcT (ob:Obj) (off n:Nat):Option (List V):=match ob with | .cells cs=>if off+n<=cs.length then some ((cs.drop off).take n) else none | _=>none
@[go_sem] theorem Zfq {o off n} :XS H (.ptr o off) n=ZcT (oat H o) off n:=Eq.trans rfl rfl
@[go_sem] theorem ZcL {cs off n} :ZcT (.cells cs) off n=if off+n<=cs.length then some ((cs.drop off).take n) else none:=Eq.trans rfl rfl
def Zc3 (ob:Obj) (i j tot n:Nat):Option (List V):=match ob with
 | .elems _ xs=>if xs.length=tot/\i<xs.length/\j+n<=(elt xs i).cells.length then some ((((elt xs i).cells.drop j).take n).map .p) else none
 | _=>none
@[go_sem] theorem Zgo {o i j tot n} :XS H (.ep o i j tot) n=Zc3 (oat H o) i j tot n:=Eq.trans rfl rfl
@[go_sem] theorem ZcR {S xs i j tot n} :Zc3 (.elems S xs) i j tot n=if xs.length=tot/\i<xs.length/\j+n<=(elt xs i).cells.length then some ((((elt xs i).cells.drop j).take n).map .p) else none:=Eq.trans rfl rfl
@[go_sem] theorem ZhS {cs} :(PV.agg cs).cells=cs:=Eq.trans rfl rfl
@[go_sem] theorem Zhi {n} :(PV.int k n).cells= [.int k n]:=Eq.trans rfl rfl
@[go_sem] theorem Zf3 {s} :(PV.str s).cells= [.str s]:=Eq.trans rfl rfl
@[go_sem] theorem Zl0 {n} :(PV.int k n).one=true:=Eq.trans rfl rfl
@[go_sem] theorem Zi2 {b} :(PV.bool b).one=true:=Eq.trans rfl rfl
@[go_sem] theorem Zme {s} :(PV.str s).one=true:=Eq.trans rfl rfl
@[go_sem] theorem ZiW {c xs} :(PV.list c xs).one=true:=Eq.trans rfl rfl
@[go_sem] theorem ZoM {cs} :mkA cs=match W5 cs with | some ps=> .p (.agg ps) | none=> .agg cs:=Eq.trans rfl rfl
@[go_sem] theorem ZkD : W5 []=some []:=Eq.trans rfl rfl
@[go_sem] theorem ZfJ {x r} :W5 (.p x::r)=(W5 r).map (x:: ·):=by simp only [W5]
def VM (n:Option Nat) (a:Bool) (x:V):Option V:=match n with | some n=>if a then some (VV n x) else none | none=>none
@[go_sem] theorem ZhB {s f x} :YI P H s f x=VM (Z8 P s f) (Xs H x) x:=Eq.trans rfl rfl
@[go_sem] theorem ZcS {n x} :VM (some n) true x=some (VV n x):=Eq.trans rfl rfl
@[go_sem] theorem Zjn {n x j} :VV n (.lp x j)= .lp x (j+n):=Eq.trans rfl rfl
@[go_sem] theorem Zhh {n o off} :VV n (.ptr o off)= .ptr o (off+n):=Eq.trans rfl rfl
@[go_sem] theorem Zkx {n o i j tot} :VV n (.ep o i j tot)= .ep o i (j+n) tot:=Eq.trans rfl rfl
def K0 (ob:Obj):Bool:=match ob with | .cells _=>true | _=>false
@[go_sem] theorem Zce {cs} :K0 (.cells cs)=true:=Eq.trans rfl rfl
def K7 (ob:Obj) (tot:Nat):Bool:=match ob with | .elems _ xs=>decide (xs.length=tot) | _=>false
@[go_sem] theorem ZbT {S xs tot} :K7 (.elems S xs) tot=decide (xs.length=tot):=Eq.trans rfl rfl
def ZeC (ob:Obj) (tot:Nat):Bool:=match ob with | .elems _ xs=>decide (xs.length=tot) | .cells _=>true | _=>false
@[go_sem] theorem Zes {S xs tot} :ZeC (.elems S xs) tot=decide (xs.length=tot):=Eq.trans rfl rfl
@[go_sem] theorem Zkb {x j} :Xs H (.lp x j)=true:=Eq.trans rfl rfl
@[go_sem] theorem Zfj {o off} :Xs H (.ptr o off)=K0 (oat H o):=Eq.trans rfl rfl
@[go_sem] theorem ZkE {o i j tot} :Xs H (.ep o i j tot)=K7 (oat H o) tot:=Eq.trans rfl rfl
def Yx (e:Option (Option Nat×Nat)) (H:List Obj) (x i:V):Option V:=match e,i with
 | some (none,S),.p (.int _ n)=>match x with
  | .p (.list _ xs)=>if 0<=n/\n<xs.length then (if (elt xs n.toNat).cells.length=S then some (.lp (elt xs n.toNat) 0) else none) else none
  | .sl o off len tot=>match oat H o with
   | .elems S' xs=>if xs.length=tot/\S'=S then (if 0<=n/\n<len then some (.ep o (off+n.toNat) 0 tot) else none) else none
   | .cells _=>if S=1/\off=0/\len=tot/\0<=n/\n<len then some (.ptr o n.toNat) else none
   | _=>none
  | _=>none
 | some (some k,S),.p (.int _ n)=>if 0<=n/\n<k then (if Xs H x then some (VV (n.toNat*S) x) else none) else none
 | _,_=>none
@[go_sem] theorem ZgJ {x i} :Yn P H t x i=Yx (YT P t) H x i:=Eq.trans rfl rfl
theorem Uk {S c xs n} (h0:0<=n) (h1:n<(List.length xs:Int)):Yx (some (none,S)) H (.p (.list c xs)) (.p (.int k n))=if (elt xs n.toNat).cells.length=S then some (.lp (elt xs n.toNat) 0) else none:=by
 simp only [Yx];rw [if_pos ⟨h0,h1⟩]
def nth {α:Type} [Inhabited α] (l:List α) (i:Nat):α:=l.getD i default
theorem XX {α:Type} [Inhabited α] {f:α->PV} {l:List α} {i:Nat} (h:i<l.length):elt (l.map f) i=f (nth l i):=by
 simp [elt,nth,h]
theorem Zh {α:Type} [Inhabited α] {l:List α} {i:Nat} (h:i<l.length):nth l i=l[i]:=by simp [nth,h]
@[go_sem] theorem Zeh {α:Type} [Inhabited α] {f:α->PV} {l:List α} {S c n} (h0:0<=n) (h1:n<(l.length:Int)) :
  Yx (some (none,S)) H (.p (.list c (l.map f))) (.p (.int k n))=if (f (nth l n.toNat)).cells.length=S then some (.lp (f (nth l n.toNat)) 0) else none:=by
 rw [Uk h0 (by simpa using h1),XX (by omega)]
def KI (ob:Obj) (S o off len tot:Nat) (n:Int):Option V:=match ob with
 | .elems S' xs=>if xs.length=tot/\S'=S then (if 0<=n/\n<len then some (.ep o (off+n.toNat) 0 tot) else none) else none
 | .cells _=>if S=1/\off=0/\len=tot/\0<=n/\n<len then some (.ptr o n.toNat) else none
 | _=>none
@[go_sem] theorem ZfA {S o off len tot n} :Yx (some (none,S)) H (.sl o off len tot) (.p (.int k n))=KI (oat H o) S o off len tot n:=Eq.trans rfl rfl
@[go_sem] theorem Zhm {S xs o off} {len tot:Nat} {n:Int} (h0:0<=n) (h1:n<(len:Int)) (ht:xs.length=tot):KI (.elems S xs) S o off len tot n=some (.ep o (off+n.toNat) 0 tot):=by
 simp only [KI];simp [ht,h0,h1]
@[go_sem] theorem ZdB {n} {m S:Nat} {x} (h0:0<=n) (h1:n<(m:Int)):Yx (some (some m,S)) H x (.p (.int k n))=VM (some (n.toNat*S)) (Xs H x) x:=by
 simp only [Yx,VM];rw [if_pos ⟨h0,h1⟩]
def Zcb (H:List Obj) (D:Option TypeDesc) (x:V):Option PV:=match D,x with
 | some (.slice _),.p (.list _ xs)=>some (.int .i64 xs.length)
 | some (.slice _),.sl o _ len tot=>match oat H o with
  | .elems _ xs=>if xs.length=tot then some (.int .i64 len) else none
  | _=>none
 | some .string,.p (.str s)=>some (.int .i64 s.length)
 | some (.array n _),_=>some (.int .i64 n)
 | _,_=>none
@[go_sem] theorem ZlU {x} :Zgi P H t x=Zcb H (P.underlying t) x:=Eq.trans rfl rfl
@[go_sem] theorem Zfd {e c xs} :Zcb H (some (.slice e)) (.p (.list c xs))=some (.int .i64 (List.length xs)):=Eq.trans rfl rfl
def ZnA (ob:Obj) (len tot:Nat):Option PV:=match ob with | .elems _ xs=>if xs.length=tot then some (.int .i64 len) else none | _=>none
@[go_sem] theorem Zks {e o off len tot} :Zcb H (some (.slice e)) (.sl o off len tot)=ZnA (oat H o) len tot:=Eq.trans rfl rfl
@[go_sem] theorem ZfB {S xs len tot} :ZnA (.elems S xs) len tot=if xs.length=tot then some (.int .i64 len) else none:=Eq.trans rfl rfl
@[go_sem] theorem Zh9 {s} :Zcb H (some .string) (.p (.str s))=some (.int .i64 (List.length s)):=Eq.trans rfl rfl
@[go_sem] theorem ZlS {b} :aun .not (.p (.bool b))=some (.bool (!b)):=Eq.trans rfl rfl
@[go_sem] theorem ZmL {n} :aun .neg (.p (.int k n))=some (.int k (k.wrap (0-n))):=Eq.trans rfl rfl
def ZcK (D E:Option TypeDesc) (x:V):Option PV:=match D,E,x with
 | some _,some (.int k),.p (.int _ n)=>some (.int k (k.wrap n))
 | some (.int _),some .string,.p (.int _ n)=>if 0<=n/\n<128 then some (.str [UInt8.ofNat n.toNat]) else none
 | some .string,some .string,.p (.str b)=>some (.str b)
 | _,_,_=>none
@[go_sem] theorem ZiU {s x} :Kv P s t x=ZcK (P.underlying s) (P.underlying t) x:=Eq.trans rfl rfl
@[go_sem] theorem Zfk {D k' n} :ZcK (some D) (some (.int k)) (.p (.int k' n))=some (.int k (k.wrap n)):=by cases D<;>rfl
def Qz (E:Option TypeDesc) (H:List Obj) (x:V):Option PV:=match E,x with
  | some (.int .u8),.p (.list _ xs)=>(ZU xs).map .str
  | some (.int .u8),.sl o off len tot=>match oat H o with
   | .elems _ xs=>if xs.length=tot/\off+len<=tot then (ZU ((xs.take (off+len)).drop off)).map .str else none
   | _=>none
  | _,_=>none
def QG (P:Program) (H:List Obj) (D E:Option TypeDesc) (x:V):Option PV:=match D,E with
 | some (.slice e),some .string=>Qz (P.underlying e) H x
 | _,_=>none
@[go_sem] theorem ZhY {s x} :Vc P H s t x=QG P H (P.underlying s) (P.underlying t) x:=Eq.trans rfl rfl
@[go_sem] theorem ZeE {E x} :QG P H (some (.int k)) E x=none:=Eq.trans rfl rfl
@[go_sem] theorem Zbs {e x} :QG P H (some (.slice e)) (some .string) x=Qz (P.underlying e) H x:=Eq.trans rfl rfl
def Zc8 (ob:Obj) (off len tot:Nat):Option PV:=match ob with | .elems _ xs=>if xs.length=tot/\off+len<=tot then (ZU ((xs.take (off+len)).drop off)).map .str else none | _=>none
@[go_sem] theorem ZeY {o off len tot} :Qz (some (.int .u8)) H (.sl o off len tot)=Zc8 (oat H o) off len tot:=Eq.trans rfl rfl
@[go_sem] theorem ZcZ {S xs off len tot} :Zc8 (.elems S xs) off len tot=if xs.length=tot/\off+len<=tot then (ZU ((xs.take (off+len)).drop off)).map .str else none:=Eq.trans rfl rfl
@[go_sem] theorem ZdW : ZU []=some []:=Eq.trans rfl rfl
@[go_sem] theorem Zdd {n r} :ZU (.int .u8 n::r)=(ZU r).map (UInt8.ofNat n.toNat:: ·):=by simp [ZU]
@[go_sem] theorem Zmy {a b:Int} (h:0<=a):a.tdiv b=a / b:=Int.tdiv_eq_ediv_of_nonneg h
@[go_sem] theorem Zl4 {a b:Int} (h:0<=a):a.tmod b=a%b:=Int.tmod_eq_emod_of_nonneg h
@[go_sem] theorem Znj {cs} :vc H (.p (.agg cs))=if cs.all (·.one)=true then some (cs.map .p) else none:=by simp only [vc]
@[go_sem] theorem ZkX {cs} :vc H (.agg cs)=if cs.all (V.one H)=true then some cs else none:=by simp only [vc]
@[go_sem] theorem ZnO {n} :vc H (.p (.int k n))=some [.p (.int k n)]:=Eq.trans rfl rfl
@[go_sem] theorem Zl1 {n} :vc H (.p (.bool n))=some [.p (.bool n)]:=Eq.trans rfl rfl
@[go_sem] theorem Zoo {n} :vc H (.p (.str n))=some [.p (.str n)]:=Eq.trans rfl rfl
@[go_sem] theorem ZmN {c xs} :vc H (.p (.list c xs))=some [.p (.list c xs)]:=Eq.trans rfl rfl
@[go_sem] theorem Zqg {o off len tot} :vc H (.sl o off len tot)=if ZeC (oat H o) tot=true then some [.sl o off len tot] else none:=Eq.trans rfl rfl
@[go_sem] theorem ZoC {x} :V.one H (.p x)=x.one:=Eq.trans rfl rfl
@[go_sem] theorem Zmj {o off len tot} :V.one H (.sl o off len tot)=ZeC (oat H o) tot:=Eq.trans rfl rfl
@[go_sem] theorem Zay {α:Type} {n} {cs:List α} :spl ([]:List α) n cs= []:=by cases cs<;>cases n<;>simp [spl]
@[go_sem] theorem Zkz {α:Type} {x c:α} {l cs} :spl (x::l) 0 (c::cs)=c::spl l 0 cs:=by simp [spl]
@[go_sem] theorem Zg4 {α:Type} {x:α} {l} :spl (x::l) 0 []=x::l:=by simp [spl]
@[go_sem] theorem Zi5 {α:Type} {x:α} {l cs n} :spl (x::l) (n+1) cs=x::spl l n cs:=by simp [spl]
def ZcY (H:List Obj) (o:Nat) (ob:Obj) (off n:Nat) (cs:List V):Option (List Obj):=match ob with
 | .cells old=>if off+n<=old.length then some (ost H o (.cells (spl old off cs))) else none
 | _=>none
@[go_sem] theorem Zfs {n o off cs} :Wd H n (.ptr o off) cs=if cs.length=n then ZcY H o (oat H o) off n cs else none:=Eq.trans rfl rfl
@[go_sem] theorem Zc0 {o old off n cs} :ZcY H o (.cells old) off n cs=if off+n<=old.length then some (ost H o (.cells (spl old off cs))) else none:=Eq.trans rfl rfl
def KN (H:List Obj) (o:Nat) (ob:Obj) (i j tot n:Nat) (ps:Option (List PV)):Option (List Obj):=match ob,ps with
 | .elems S xs,some ps=>if xs.length=tot/\i<xs.length/\j+n<=(elt xs i).cells.length/\ps.all (·.one)=true/\(elt xs i).cells.all (·.one)=true then
   some (ost H o (.elems S (xs.set i (mkE (elt xs i) (spl (elt xs i).cells j ps))))) else none
 | _,_=>none
@[go_sem] theorem Zh3 {n o i j tot cs} :Wd H n (.ep o i j tot) cs=if cs.length=n then KN H o (oat H o) i j tot n (W5 cs) else none:=Eq.trans rfl rfl
@[go_sem] theorem Zft {α:Type} [Inhabited α] {f:α->PV} {l:List α} {o S i j tot n ps} (ht:l.length=tot) (hi:i<l.length):KN H o (.elems S (l.map f)) i j tot n (some ps) =
  if j+n<=(f (nth l i)).cells.length/\ps.all (·.one)=true/\(f (nth l i)).cells.all (·.one)=true then
   some (ost H o (.elems S ((l.map f).set i (mkE (f (nth l i)) (spl (f (nth l i)).cells j ps))))) else none:=by
 simp only [KN,XX hi]
 have h1:(l.map f).length=tot:=by simpa using ht
 have h2:i<(l.map f).length:=by simpa using hi
 simp only [h1,h2,true_and];subst ht;simp [hi]
@[go_sem] theorem Zlo {a cs} :mkE (.agg a) cs= .agg cs:=Eq.trans rfl rfl
@[go_sem] theorem Zk9 {n c l} :mkE (.int k n) (c::l)=c:=Eq.trans rfl rfl
@[go_sem] theorem Zgn {l} :UM P H t l=match ZZ P t,tpl P t with
 | some zs,some pl=>(WY H pl (zs.map .p) l).map mkA
 | _,_=>none:=Eq.trans rfl rfl
@[go_sem] theorem Zhv {pl cs} :WY H pl cs []=some cs:=by simp [WY]
def ZcO (H:List Obj) (pl:Nat->Option (Nat×Nat)) (cs:List V) (r:List (Nat×V)) (q:Option (Nat×Nat)) (vs:Option (List V)):Option (List V):=match q,vs with
 | some (off,sz),some vs=>if vs.length=sz/\off+sz<=cs.length then WY H pl (spl cs off vs) r else none
 | _,_=>none
@[go_sem] theorem Zfv {pl cs i v r} :WY H pl cs ((i,v)::r)=ZcO H pl cs r (pl i) (vc H v):=Eq.trans rfl rfl
@[go_sem] theorem Zet {pl cs off sz vs r} :ZcO H pl cs r (some (off,sz)) (some vs)=if vs.length=sz/\off+sz<=cs.length then WY H pl (spl cs off vs) r else none:=Eq.trans rfl rfl
@[go_sem] theorem ZnR {l i} :plL l i=l[i]? :=Eq.trans rfl rfl
end vals
end Go.AM
namespace Go.AM
open Go.RowKit
section
variable {P : Program} {H : List Obj} {k : IntKind} {t u : TypeId} {fr : List V}
def Zdw (S:Option Nat) (H:List Obj) (n:Nat) (l:List (Nat×V)):Option (V×List Obj):=match S with
 | some S=>if n=l.length/\n*S<=16777216/\0<S then (V7 H S 0 l).map fun xs=>(.sl H.length 0 n n,H++ [.elems S xs]) else none
 | none=>none
@[go_sem] theorem ZjN {n l} :Yh P (.buildSlice t n (List.toArray l)) fr H=Zdw (Qe P t) H n (l.map fun x=>(x.1,ev fr x.2)):=by
 simp only [Yh,Qe,Zdw]
 cases P.underlying t with
 | none=>rfl
 | some D =>
  cases D<;>try rfl
  rename_i e;simp only []
  cases (P.info? e).bind (·.zero) with
  | none=>rfl
  | some z =>
   simp only [Zd1]
   cases YT P t with
   | none=>rfl
   | some q=>obtain ⟨a,b⟩:=q;cases a<;>rfl
@[go_sem] theorem Zfw {S n l} :Zdw (some S) H n l=if n=l.length/\n*S<=16777216/\0<S then (V7 H S 0 l).map fun xs=>(.sl H.length 0 n n,H++ [.elems S xs]) else none:=Eq.trans rfl rfl
@[go_sem] theorem Zjl {S n} :V7 H S n []=some []:=by simp [V7]
@[go_sem] theorem Zg0 {S n i x r} :V7 H S n ((i,.p x)::r)=if i=n then if x.cells.length=S/\x.cells.all (·.one)=true then (V7 H S (n+1) r).map (x:: ·) else none else none:=by simp only [V7,pvo]
def Zbn (P:Program) (t:TypeId):Option (Nat×Nat):=match P.underlying t with
 | some (.slice e)=>match tsz P e,W6 P e,(P.info? e).map (·.bytes) with
  | some S,some z,some by'=>if 0<S/\z.cells.length=S/\z.cells.all (·.one)=true/\by'≠0 then some (S,by') else none
  | _,_,_=>none
 | _=>none
theorem ZcD {S by'} (h:Zbn P t=some (S,by')): ∃e z,P.underlying t=some (.slice e)/\tsz P e=some S/\W6 P e=some z/\(P.info? e).map (·.bytes)=some by'/\0<S/\z.cells.length=S/\z.cells.all (·.one)=true/\by'≠0:=by
 unfold Zbn at h
 split at h
 ·rename_i e hu
  split at h
  ·rename_i S' z b h1 h2 h3
   split at h
   ·rename_i hc;simp at h;obtain ⟨rfl,rfl⟩:=h;exact ⟨e,z,hu,h1,h2,h3,hc⟩
   ·cases h
  ·cases h
 ·cases h
def Wz (D:Option TypeDesc) (H:List Obj) (y:V):Option (List PV):=match D,y with
 | some (.slice _),.p (.list _ ys)=>some ys
 | some (.slice _),.sl o off len tot=>match oat H o with
  | .elems _ xs=>if xs.length=tot/\off+len<=tot then some ((xs.take (off+len)).drop off) else none
  | _=>none
 | some .string,.p (.str s)=>some (s.map fun b=> .int .u8 b.toNat)
 | _,_=>none
def ZgT (ob:Obj) (off len tot:Nat):Option (List PV):=match ob with | .elems _ xs=>if xs.length=tot/\off+len<=tot then some ((xs.take (off+len)).drop off) else none | _=>none
@[go_sem] theorem Zfa {e c ys} :Wz (some (.slice e)) H (.p (.list c ys))=some ys:=Eq.trans rfl rfl
@[go_sem] theorem ZiC {e o off len tot} :Wz (some (.slice e)) H (.sl o off len tot)=ZgT (oat H o) off len tot:=Eq.trans rfl rfl
theorem Jf {S xs n} (h:List.length xs=n):ZgT (.elems S xs) 0 n n=some xs:=by subst h;simp [ZgT]
def Uf (H:List Obj) (F:Option (Nat×Nat)) (ob:Obj) (o n:Nat) (ys:Option (List PV)):Option (V×List Obj):=match F,ob,ys with
 | some (S,by'),.elems S' xs,some ys=>if S'=S/\xs.length=n/\okE S ys=true/\(n+ys.length)*by'<=140737488355328/\n+ys.length<=140737488355328 then
   some (.sl o 0 (n+ys.length) (n+ys.length),ost H o (.elems S (xs++ys))) else none
 | _,_,_=>none
theorem ZeR {z x y ys e S by'} (h1:P.underlying t=some (.slice e)) (h2:tsz P e=some S) (h3:W6 P e=some z) (h4:(P.info? e).map (·.bytes)=some by') (h5:ZcI P H u y=some ys) (h6:0<S/\z.cells.length=S/\z.cells.all (·.one)=true/\by'≠0) :
  UJ P H t u x y=if okE S ys=true then (match x with
    | .p (.list cl xs)=>if cl=true/\okE S xs=true/\(xs= []\/0<ys.length)/\(xs.length+ys.length)*by'<=140737488355328/\xs.length+ys.length<=140737488355328 then
      some (.sl H.length 0 (xs.length+ys.length) (xs.length+ys.length),H++ [.elems S (xs++ys)]) else none
    | .sl o off len tot=>match oat H o with
     | .elems S' xs=>if S'=S/\off=0/\len=tot/\xs.length=tot/\(tot+ys.length)*by'<=140737488355328/\tot+ys.length<=140737488355328 then
       some (.sl o 0 (tot+ys.length) (tot+ys.length),ost H o (.elems S (xs++ys))) else none
     | _=>none
    | _=>none) else none:=by
 simp only [UJ,h1,h2,h3,h4,h5]
 by_cases hc:okE S ys=true
 ·rw [if_pos hc,if_pos ⟨h6.1,h6.2.1,h6.2.2.1,h6.2.2.2,hc⟩]
  cases x with
  | p x=>cases x<;>rfl
  | _=>rfl
 ·rw [if_neg hc,if_neg (fun h=>hc h.2.2.2.2)]
theorem XL {y F o n} (hF:Zbn P t=some F):UJ P H t u (.sl o 0 n n) y=Uf H (some F) (oat H o) o n (Wz (P.underlying u) H y):=by
 obtain ⟨S,by'⟩:=F;obtain ⟨e,z,h1,h2,h3,h4,h6⟩:=ZcD hF;have e1:Wz (P.underlying u) H y=ZcI P H u y:=Eq.trans rfl rfl;rw [e1]
 cases h5:ZcI P H u y with
 | none =>
  simp only [UJ,h1,h2,h3,h4,h5,Uf]
  cases oat H o<;>rfl
 | some ys =>
  rw [ZeR h1 h2 h3 h4 h5 h6];simp only [Uf]
  cases oat H o with
  | elems S' xs =>
   by_cases hc:okE S ys=true
   ·simp [hc]
   ·simp [hc]
  | cells cs=>simp
  | map es=>simp
  | bld T E r bs=>simp
  | dead=>simp
theorem Uy {S b xs ys o n} (hn:xs.length=n) (hb:(n+ys.length)*b<=140737488355328) (hb2:n+ys.length<=140737488355328):Uf H (some (S,b)) (.elems S xs) o n (some ys)=if okE S ys=true then some (.sl o 0 (n+ys.length) (n+ys.length),ost H o (.elems S (xs++ys))) else none:=by
 simp only [Uf]
 by_cases hc:okE S ys=true
 ·rw [if_pos ⟨trivial,hn,hc,hb,hb2⟩,if_pos hc]
 ·rw [if_neg (fun h=>hc h.2.2.1),if_neg hc]
@[go_sem] theorem Zkh {α:Type} {S} {f:α->PV} {l:List α} :ZgT (.elems S (l.map f)) 0 l.length l.length=some (l.map f):=Jf (by simp)
@[go_sem] theorem Ziz {S x} :ZgT (.elems S [x]) 0 1 1=some [x]:=Jf (by simp)
@[go_sem] theorem ZgK {α:Type} {S b o x} {f:α->PV} {l:List α} (hb:(l.length+1)*b<=140737488355328) (hb2:l.length+1<=140737488355328):Uf H (some (S,b)) (.elems S (l.map f)) o l.length (some [x])=if okE S [x]=true then some (.sl o 0 (l.length+1) (l.length+1),ost H o (.elems S (l.map f++ [x]))) else none :=
 Uy (by simp) (by simpa using hb) (by simpa using hb2)
@[go_sem] theorem Zh0 {α β:Type} {S b o} {f:α->PV} {g:β->PV} {l:List α} {m:List β} (hb:(l.length+m.length)*b<=140737488355328) (hb2:l.length+m.length<=140737488355328):Uf H (some (S,b)) (.elems S (l.map f)) o l.length (some (m.map g))=if okE S (m.map g)=true then some (.sl o 0 (l.length+m.length) (l.length+m.length),ost H o (.elems S (l.map f++m.map g))) else none:=by
 have:= @Uy H S b (l.map f) (m.map g) o l.length (by simp) (by simpa using hb) (by simpa using hb2);simpa using this
@[go_sem] theorem ZkQ {S} :okE S []=true:=Eq.trans rfl rfl
@[go_sem] theorem ZjG {S x l} :okE S (x::l)=((x.cells.length==S)&&x.cells.all (·.one)&&okE S l):=by simp [okE,ZiQ]
theorem Zed {α:Type} {S} {f:α->PV} {l:List α} (h: ∀x,ZiQ S (f x)=true):okE S (l.map f)=true:=by simp [okE];intro x _;exact h x
def ZeH (P:Program) (t:TypeId):Option (Nat×Nat×PV):=match P.underlying t with
  | some (.slice e)=>match tsz P e,W6 P e,(P.info? e).map (·.bytes) with
   | some S,some z,some by'=>if z.cells.all (·.one)=true/\z.cells.length=S/\0<S then some (S,by',z) else none
   | _,_,_=>none
  | _=>none
end
def Xu : Nat->List Nat->List V->List V
 | _,_,[]=> []
 | i,[],_::l=> .junk::Xu (i+1) [] l
 | i,k::ks,x::l=>if i=k then x::Xu (i+1) ks l else .junk::Xu (i+1) (k::ks) l
def Qd : List (Nat×V)->List V->List V
 | [],fr=>fr
 | (i,v)::r,fr=>Qd r (pt fr i v)
@[go_sem] theorem ZfK {i ks} :Xu i ks []= []:=by cases ks<;>simp [Xu]
@[go_sem] theorem Ze7 {i x l} :Xu i [] (x::l)= .junk::Xu (i+1) [] l:=by simp [Xu]
@[go_sem] theorem ZeZ {i k ks x l} :Xu i (k::ks) (x::l)=if i=k then x::Xu (i+1) ks l else .junk::Xu (i+1) (k::ks) l:=by simp [Xu]
@[go_sem] theorem Zpl : ((0:Nat):Int)=0:=Eq.trans rfl rfl
@[go_sem] theorem ZpC {n:Nat} :((n+1:Nat):Int)=(n:Int)+1:=Eq.trans rfl rfl
@[go_sem] theorem ZoP {n:Nat} :((n:Int)).toNat=n:=Eq.trans rfl rfl
@[go_sem] theorem ZiN {fr} :Qd [] fr=fr:=by simp [Qd]
@[go_sem] theorem Zf2 {i v r fr} :Qd ((i,v)::r) fr=Qd r (pt fr i v):=by simp [Qd]
@[go_sem] theorem ZmE {p q:Prop} [Decidable p] [Decidable q]:(decide p&&decide q)=decide (p/\q):=by simp
@[go_sem] theorem Zim {p q:Prop} [Decidable p] [Decidable q]:(decide p||decide q)=decide (p\/q):=by simp
theorem Zf {P c fr H Q} {I:Type} (ks:List Nat) (sets:I->List (Nat×V)) (hs:I->List Obj) (R:I->Prop) (μ:I->Nat) (i0:I) (hR:R i0) (h0:Weak H.length fr H (Qd (sets i0) (Xu 0 ks fr)) (hs i0))
  (round: ∀i,R i->awp [] P c (Qd (sets i) (Xu 0 ks fr)) (hs i) (Y2 (fun fr' H'=> ∃i',R i'/\μ i'<μ i/\Weak H.length fr' H' (Qd (sets i') (Xu 0 ks fr)) (hs i')) Q)):AWP P (.loop c) fr H Q :=
 Jo R (fun i=>Qd (sets i) (Xu 0 ks fr)) hs μ i0 hR h0 fun i hi=>Za [] _ _ _ _ (round i hi)
theorem Xc {P c fr H Q} (cuts:List Nat) {I:Type} (ks:List Nat) (sets:I->List (Nat×V)) (hs:I->List Obj) (R:I->Prop) (μ:I->Nat) (i0:I) (hR:R i0) (h0:Weak H.length fr H (Qd (sets i0) (Xu 0 ks fr)) (hs i0))
  (round: ∀i,R i->awp cuts P c (Qd (sets i) (Xu 0 ks fr)) (hs i) (Y2 (fun fr' H'=> ∃i',R i'/\μ i'<μ i/\Weak H.length fr' H' (Qd (sets i') (Xu 0 ks fr)) (hs i')) Q)):AWP P (.loop c) fr H Q :=
 Jo R (fun i=>Qd (sets i) (Xu 0 ks fr)) hs μ i0 hR h0 fun i hi=>Za cuts _ _ _ _ (round i hi)
theorem Zm {P x y fr H Q} {I:Type} (ks:List Nat) (sets:I->List (Nat×V)) (hs:I->List Obj) (R:I->Prop)
  (h:awp [] P x fr H (Y2 (fun fr' H'=> ∃i,R i/\Weak H.length fr' H' (Qd (sets i) (Xu 0 ks fr)) (hs i)) Q)) (k: ∀i,R i->AWP P y (Qd (sets i) (Xu 0 ks fr)) (hs i) Q):AWP P (.seq x y) fr H Q :=
 fun F ι a w hr hf=>by
 refine wp_seq (wp_mono (Za [] _ _ _ _ h F ι a w hr hf) ?_);rintro e a' w' ⟨fr',H',ι',q,g,f⟩
 cases e with
 | normal =>
  obtain ⟨i,hi,hw⟩:=q;obtain ⟨ι2,r2,f2,g2⟩:=hw F ι' a' w' g.rel f;refine wp_mono (k i hi F ι2 a' w' r2 f2) ?_;rintro e2 a2 w2 ⟨fr2,H2,ι3,q2,g3,f3⟩;exact ⟨fr2,H2,ι3,q2,(g2 H ι w (Nat.le_refl _) g).trans g3,f3⟩
 | exit id=>exact ⟨fr',H',ι',q,g,f⟩
 | goto l=>exact ⟨fr',H',ι',q,g,f⟩
 | ret=>exact ⟨fr',H',ι',q,g,f⟩
 | panic ch=>exact ⟨fr',H',ι',q,g,f⟩
 | outgrown=>exact ⟨fr',H',ι',q,g,f⟩
@[go_sem] theorem Zkc {H n x} :wkV H n x .junk=True:=by simp [wkV]
@[go_sem] theorem Zog {H n} {x y:PV} :wkV H n (.p x) (.p y)=(y=x):=by simp [wkV,refB,frz]
@[go_sem] theorem Zmi {H n o off len tot o' off' len' tot'} :wkV H n (.sl o off len tot) (.sl o' off' len' tot')=((o'=o/\off'=off/\len'=len/\tot'=tot)/\o<n):=by simp [wkV,refB]
@[go_sem] theorem ZiE {H n o off o' off'} :wkV H n (.ptr o off) (.ptr o' off')=((o'=o/\off'=off)/\o<n):=by simp [wkV,refB]
@[go_sem] theorem ZmA {H n} :wkF H n [] []=True:=by simp [wkF]
@[go_sem] theorem Zjt {H n x l x' l'} :wkF H n (x::l) (x'::l')=(wkV H n x x'/\wkF H n l l'):=by simp [wkF]
@[go_sem] theorem Zmb {H n l} :wkH H n l []=True:=by simp [wkH]
@[go_sem] theorem ZiG {H n x l x' l'} :wkH H n (x::l) (x'::l')=(wkO H n x x'/\wkH H n l l'):=by simp [wkH]
@[go_sem] theorem Zhb {H n cs cs'} :wkO H n (.cells cs) (.cells cs')=wkF H n cs cs':=by simp [wkO]
@[go_sem] theorem ZhW {H n S S' xs xs'} :wkO H n (.elems S xs) (.elems S' xs')=(S=S'/\xs=xs'):=by simp [wkO]
theorem Weak.mk {n0 fr H fr' H'} (h:n0<=H'.length/\H'.length<=H.length/\wkF H H'.length fr fr'/\wkH H H'.length H H'):Weak n0 fr H fr' H':=Weak.of h.1 h.2.2.1 h.2.2.2 h.2.1
theorem wk {n0 fr H fr' H'} (h:n0<=H'.length/\H'.length<=H.length/\wkF H H'.length fr fr'/\wkH H H'.length H H':=by simp (disch:=omega) only [go_sem,seval]):Weak n0 fr H fr' H':=Weak.mk h
theorem we {n0 x H' a b} (h:n0<=List.length b/\List.length b<=H'.length/\wkF H' (List.length b) [x] [a]/\wkH H' (List.length b) H' b:=by simp (disch:=omega) only [go_sem,seval]): ∃y H'',Weak n0 [x] H' [y] H''/\y=a/\H''=b:=⟨_,_,Weak.mk h,rfl,rfl⟩
attribute [go_sem] List.length_cons List.length_nil List.cons_append List.nil_append List.append_nil List.map_cons List.map_nil List.drop_zero List.drop_succ_cons List.drop_nil List.take_succ_cons List.take_zero List.take_nil List.all_cons List.all_nil
 Nat.zero_add Nat.add_zero and_self true_and and_true Option.map_some Option.bind_some List.getElem?_cons_zero List.getElem?_cons_succ Bool.and_true Bool.true_and Bool.and_self List.length_map if_true if_false decide_true decide_false IntWalk.i64_in IntWalk.i32_in IntWalk.u8_in IntWalk.u64_in IntWalk.u32_in
 beq_self_eq_true List.replicate_succ List.replicate_zero Bool.or_true Bool.true_or Bool.or_false Bool.false_or Bool.not_true Bool.not_false
end Go.AM
namespace Go.AM
open Go.RowKit
theorem RP.weaker {X X':Nat->Prop} {w x v} (h:RP X w x v) (hx: ∀b,X' b->X b):RP X' w x v:=h.ext (w':=w) fun _ hb hs=>⟨fun h=>hb (hx _ h),hs,rfl⟩
theorem Good.forget {F w H' ι' w'} (he:Env F [] w) (hf: ∀b,F b->b<w.heap.size) (g:Good F [] [] w H' ι' w'):Good F [] [] w [] [] w' :=
 .up he ⟨⟨rfl,fun b hb=>by have:=hf b hb;have:=g.size;omega,fun i j b hi=>by simp at hi,fun i b hi=>by simp at hi,fun o cs ho=>by simp at ho,fun o S xs ho=>by simp at ho,fun o es ho=>by simp at ho,fun o T E r bs ho=>by simp at ho⟩,
  g.os,g.tape,g.output,fun b c t h=>(g.shape b c t h).imp (fun h=>absurd h.1 (by simp)) id,g.size,g.keep,fun _ _ h=>h,fun o ob ho=>by simp at ho⟩
theorem ACalls.pure {P g args} {y:PV} (h:ACalls P g args [] fun x _=>x= .p y):ACalls P g args [] fun x H'=>x= .p y/\H'= []:=by
 refine ⟨h.1,fun F ι w vs hr hv=> ?_⟩;have hι:ι= []:=List.eq_nil_of_length_eq_zero hr.len;subst hι;refine (h.2 F [] w vs hr hv).mono ?_;rintro e w' ⟨x,H',ι',v,rfl,rfl,gd,rv⟩
 cases rv with | p _ _ rp =>
 exact ⟨_,[],[],v,rfl,⟨rfl,rfl⟩,gd.forget hr.env hr.fin,.p _ _ (rp.weaker fun b hb=> .inl (by rcases hb with hb | hb;exact hb;simp at hb))⟩
theorem Vr {F:Nat->Prop} {w w':World} {H':List Obj} {ι':List (Option Nat)} {v:Value} {o S n:Nat} {xs:List PV} (hF: ∀b,F b->b<w.heap.size) (hn:xs.length=n) (ho:oat H' o= .elems S xs)
  (gd:Good F [] [] w H' ι' w') (rv:RV F H' ι' w' (.sl o 0 n n) v): ∃ι2,Good F [] [] w [.elems S xs] ι2 w'/\RV F [.elems S xs] ι2 w' (.sl 0 0 n n) v:=by
 have hH:=Zs ho (by simp);have hlt:=(List.getElem?_eq_some_iff.1 hH).1
 have hlt':o<ι'.length:=by rw [gd.rel.len];exact hlt
 have hι':ι'[o]? =some (ι'[o]):=by simp [hlt']
 have hget: ∀ {i:Nat} {q:Option Nat},[ι'[o]][i]? =some q->i=0/\ι'[o]? =some q:=fun {i q} h=>by
  cases i with
  | zero=>simp at h;subst h;exact ⟨rfl,hι'⟩
  | succ i=>simp at h
 have hown: ∀b,Own F [ι'[o]] b->Own F ι' b:=fun b hb=>by
  rcases hb with hb | hb
  ·exact .inl hb
  ·simp at hb;right;rw [hb];simp
 refine ⟨[ι'[o]],⟨⟨⟨rfl,fun b hb=> ?_,fun i j b hi hj=> ?_,fun i b hi=> ?_,fun o' cs ho'=> ?_,fun o' S' xs' ho'=> ?_,fun o' es ho'=>by cases o'<;>simp at ho',fun o' T E r bs ho'=>by cases o'<;>simp at ho'⟩,gd.rel.env.le hown⟩,gd.os,gd.tape,gd.output,fun b c t h=>(gd.shape b c t h).imp (fun h=>absurd h.1 (by simp)) id,gd.size,gd.keep,fun b hb _ h=> ?_,fun o ob ho=>by simp at ho⟩,?_⟩
 ·have:=hF b hb;have:=gd.size;omega
 ·rw [(hget hi).1,(hget hj).1]
 ·exact gd.rel.avo o b (hget hi).2
 ·cases o' with
  | zero=>simp at ho'
  | succ i=>simp at ho'
 ·cases o' with
  | zero =>
   simp at ho';obtain ⟨rfl,rfl⟩:=ho';rcases gd.rel.elm o _ _ hH with ⟨e1,e2⟩ | ⟨b,c,t,cap,e1,e2,e3,e4,e5,e6,e7⟩
   ·exact .inl ⟨by rw [hι'] at e1;simpa using e1,e2⟩
   ·exact .inr ⟨b,c,t,cap,by rw [hι'] at e1;simpa using e1,e2,e3,e4,e5,e6,fun i x j y hi hj=>(e7 i x j y hi hj).weaker hown⟩
  | succ i=>simp at ho'
 ·simp at h;exact gd.own b hb (by simp) (by rw [h];simp)
 ·cases rv with
  | slNil _ S2 a h1 h2 =>
   rw [hH] at h2;simp at h2;obtain ⟨rfl,rfl⟩:=h2;exact .slNil 0 S a (by rw [hι'] at h1;simpa using h1) rfl
  | sl _ _ _ _ b S2 cap t xs2 c h1 h2 ht hw hcap hl hlen hm =>
   rw [hH] at h2;simp at h2;obtain ⟨rfl,rfl⟩:=h2;exact .sl 0 0 n n b S cap t xs c (by rw [hι'] at h1;simpa using h1) rfl hn hw hcap hl hlen hm
  | slD _ _ _ _ _ h1=>rw [hH] at h1;cases h1
  | slS _ _ _ _ _ S2 xs2 h1 hne=>rw [hH] at h1;simp at h1;obtain ⟨_,rfl⟩:=h1;omega
  | slC _ _ _ _ _ _ hd=>rw [hH] at hd;cases hd
theorem ACalls.fresh {P g args} {S n:Nat} {xs:List PV} (hn:xs.length=n) (h:ACalls P g args [] fun x H'=> ∃o,x= .sl o 0 n n/\oat H' o= .elems S xs):ACalls P g args [] fun x H'=>x= .sl 0 0 n n/\H'= [.elems S xs]:=by
 refine ⟨h.1,fun F ι w vs hr hv=> ?_⟩;have hι:ι= []:=List.eq_nil_of_length_eq_zero hr.len;subst hι;refine (h.2 F [] w vs hr hv).mono ?_;rintro e w' ⟨x,H',ι',v,rfl,⟨o,rfl,ho⟩,gd,rv⟩;obtain ⟨ι2,g2,r2⟩:=Vr hr.fin hn ho gd rv;exact ⟨_,_,ι2,v,rfl,⟨rfl,rfl⟩,g2,r2⟩
theorem ACalls.freshE {P g args} {α:Type} {S:Nat} {f:α->PV} {R:List α->Prop} (h:ACalls P g args [] fun x H'=> ∃l:List α,R l/\ ∃o,x= .sl o 0 l.length l.length/\oat H' o= .elems S (l.map f)) :
  ACalls P g args [] fun x H'=> ∃l:List α,R l/\x= .sl 0 0 l.length l.length/\H'= [.elems S (l.map f)]:=by
 refine ⟨h.1,fun F ι w vs hr hv=> ?_⟩;have hι:ι= []:=List.eq_nil_of_length_eq_zero hr.len;subst hι;refine (h.2 F [] w vs hr hv).mono ?_;rintro e w' ⟨x,H',ι',v,rfl,⟨l,hl,o,rfl,ho⟩,gd,rv⟩;obtain ⟨ι2,g2,r2⟩:=Vr hr.fin (by simp) ho gd rv;exact ⟨_,_,ι2,v,rfl,⟨l,hl,rfl,rfl⟩,g2,r2⟩
theorem ACalls.frozen {P g args} {S n:Nat} {xs:List PV} (hn:xs.length=n) (h:ACalls P g args [] fun x H'=>x= .sl 0 0 n n/\H'= [.elems S xs]):ACalls P g args [] fun x H'=>x= .p (.list false xs)/\H'= []:=by
 refine ⟨h.1,fun F ι w vs hr hv=> ?_⟩;have hι:ι= []:=List.eq_nil_of_length_eq_zero hr.len;subst hι;refine (h.2 F [] w vs hr hv).mono ?_;rintro e w' ⟨x,H',ι',v,rfl,⟨rfl,rfl⟩,gd,rv⟩;have hk:Keeps (Own F ι') w' (Own F []) w':=fun b hb hs=>⟨fun h=>hb (.inl (by rcases h with h | h;exact h;simp at h)),hs,rfl⟩
 have:=WE (S:=S) (xs:=xs) (off:=0) (len:=n) (tot:=n) (Own F []) (fun b hb h=>by
  rcases h with h | h
  ·exact (gd.rel.avo 0 b hb).1 h
  ·simp at h) hk gd.rel rfl hn (by omega) rv
 rw [Nat.zero_add,List.drop_zero,List.take_of_length_le (by omega)] at this;exact ⟨_,[],[],v,rfl,⟨rfl,rfl⟩,gd.forget hr.env hr.fin,.p _ _ this⟩
theorem ACalls.frozenE {P g args} {α:Type} {S:Nat} {f:α->PV} {R:List α->Prop} (h:ACalls P g args [] fun x H'=> ∃l:List α,R l/\x= .sl 0 0 l.length l.length/\H'= [.elems S (l.map f)]) :
  ACalls P g args [] fun x H'=> ∃l:List α,R l/\x= .p (.list false (l.map f))/\H'= []:=by
 refine ⟨h.1,fun F ι w vs hr hv=> ?_⟩;have hι:ι= []:=List.eq_nil_of_length_eq_zero hr.len;subst hι;refine (h.2 F [] w vs hr hv).mono ?_;rintro e w' ⟨x,H',ι',v,rfl,⟨l,hl,rfl,rfl⟩,gd,rv⟩;have hk:Keeps (Own F ι') w' (Own F []) w':=fun b hb hs=>⟨fun h=>hb (.inl (by rcases h with h | h;exact h;simp at h)),hs,rfl⟩
 have:=WE (S:=S) (xs:=l.map f) (off:=0) (len:=l.length) (tot:=l.length) (Own F []) (fun b hb h=>by
  rcases h with h | h
  ·exact (gd.rel.avo 0 b hb).1 h
  ·simp at h) hk gd.rel rfl (by simp) (by omega) rv
 rw [Nat.zero_add,List.drop_zero,List.take_of_length_le (by simp)] at this;exact ⟨_,[],[],v,rfl,⟨l,hl,rfl,rfl⟩,gd.forget hr.env hr.fin,.p _ _ this⟩
theorem ACalls.useV {P g args} {α:Type} {f:α->PV} {R:α->Prop} {H:List Obj} {K:V->List Obj->Prop} (h:ACalls P g args [] fun x H'=> ∃a:α,R a/\x= .p (f a)/\H'= []) (k: ∀a,R a->K (.p (f a)) H) (ha:ZT 0 args=true:=by rfl):ACalls P g args H K:=by
 refine (h.behind ha H).mono ?_;rintro x H' ⟨y',H1,⟨a,ra,rfl,rfl⟩,rfl,rfl⟩;simpa [shV] using k a ra
theorem ACalls.useE {P g args} {α:Type} {S:Nat} {f:α->PV} {R:List α->Prop} {H:List Obj} {K:V->List Obj->Prop} (h:ACalls P g args [] fun x H'=> ∃l:List α,R l/\x= .sl 0 0 l.length l.length/\H'= [.elems S (l.map f)])
  (k: ∀l,R l->K (.sl H.length 0 l.length l.length) (H++ [.elems S (l.map f)])) (ha:ZT 0 args=true:=by rfl):ACalls P g args H K:=by
 refine (h.behind ha H).mono ?_;rintro x H' ⟨y',H1,⟨l,rl,rfl,rfl⟩,rfl,rfl⟩;simpa [shV,shO] using k l rl
theorem ACalls.use {P g args} {y:PV} {H:List Obj} {K:V->List Obj->Prop} (h:ACalls P g args [] fun x H'=>x= .p y/\H'= []) (k:K (.p y) H) (ha:ZT 0 args=true:=by rfl):ACalls P g args H K:=by
 refine (h.behind ha H).mono ?_;rintro x H' ⟨y',H1,⟨rfl,rfl⟩,rfl,rfl⟩;simpa [shV] using k
theorem ACalls.useF {P g args} {S n:Nat} {xs:List PV} {H:List Obj} {K:V->List Obj->Prop} (h:ACalls P g args [] fun x H'=>x= .sl 0 0 n n/\H'= [.elems S xs]) (k:K (.sl H.length 0 n n) (H++ [.elems S xs])) (ha:ZT 0 args=true:=by rfl):ACalls P g args H K:=by
 refine (h.behind ha H).mono ?_;rintro x H' ⟨y',H1,⟨rfl,rfl⟩,rfl,rfl⟩;simpa [shV,shO] using k
theorem Zb {P:Program} {g:FuncId} {fn:Func} {c:Code} {args:List V} {y:PV} (hf:P.funcs[g]? =some fn) (hb:fn.body=some c) (hg:Zo P g)
  (h:awp [] P c (args++List.replicate (fn.ntmps-args.length) .junk) [] (V8 P fn.results.toList fun x _=>x= .p y)):ACalls P g args [] fun x H'=>x= .p y/\H'= [] :=
 (Xd hf hb hg (Za [] _ _ _ _ h)).pure
theorem UR (cuts:List Nat) {P:Program} {g:FuncId} {fn:Func} {c:Code} {args:List V} {y:PV} (hf:P.funcs[g]? =some fn) (hb:fn.body=some c) (hg:Zo P g)
  (h:awp cuts P c (args++List.replicate (fn.ntmps-args.length) .junk) [] (V8 P fn.results.toList fun x _=>x= .p y)):ACalls P g args [] fun x H'=>x= .p y/\H'= [] :=
 (Xd hf hb hg (Za cuts _ _ _ _ h)).pure
theorem Ue {P:Program} {g:FuncId} {fn:Func} {c:Code} {args:List V} {S n:Nat} {xs:List PV} (hn:xs.length=n) (hf:P.funcs[g]? =some fn) (hb:fn.body=some c) (hg:Zo P g)
  (h:awp [] P c (args++List.replicate (fn.ntmps-args.length) .junk) [] (V8 P fn.results.toList fun x H'=> ∃o,x= .sl o 0 n n/\oat H' o= .elems S xs)):ACalls P g args [] fun x H'=>x= .sl 0 0 n n/\H'= [.elems S xs] :=
 (Xd hf hb hg (Za [] _ _ _ _ h)).fresh hn
theorem VR (cuts:List Nat) {P:Program} {g:FuncId} {fn:Func} {c:Code} {args:List V} {S n:Nat} {xs:List PV} (hn:xs.length=n) (hf:P.funcs[g]? =some fn) (hb:fn.body=some c) (hg:Zo P g)
  (h:awp cuts P c (args++List.replicate (fn.ntmps-args.length) .junk) [] (V8 P fn.results.toList fun x H'=> ∃o,x= .sl o 0 n n/\oat H' o= .elems S xs)):ACalls P g args [] fun x H'=>x= .sl 0 0 n n/\H'= [.elems S xs] :=
 (Xd hf hb hg (Za cuts _ _ _ _ h)).fresh hn
theorem Zn (cuts:List Nat) {P:Program} {g:FuncId} {fn:Func} {c:Code} {args:List V} {α:Type} {S:Nat} {f:α->PV} {R:List α->Prop} (hf:P.funcs[g]? =some fn) (hb:fn.body=some c) (hg:Zo P g)
  (h:awp cuts P c (args++List.replicate (fn.ntmps-args.length) .junk) [] (V8 P fn.results.toList fun x H'=> ∃l:List α,R l/\ ∃o,x= .sl o 0 l.length l.length/\oat H' o= .elems S (l.map f))):ACalls P g args [] fun x H'=> ∃l:List α,R l/\x= .sl 0 0 l.length l.length/\H'= [.elems S (l.map f)] :=
 (Xd hf hb hg (Za cuts _ _ _ _ h)).freshE
theorem Weak.ofNil {n0 fr H fr' H'} (t S:Nat) (h:gt fr t= .p (.list true [])) (hn:n0<=H.length) (k:Weak n0 (pt fr t (.sl H.length 0 0 0)) (H++ [.elems S []]) fr' H'):Weak n0 fr H fr' H' :=
 (Weak.nil t S h hn).trans k
end Go.AM
namespace Go.AM
open Go.RowKit
section
variable {P : Program} {H : List Obj} {t : TypeId} {fr : List V}
def Zci (e:Option (Option Nat×Nat)) (c:Bool) (xs:List PV) (lo hi:V):Option V:=match e,lo,hi with
 | some (none,S),.p (.int _ a),.p (.int _ b)=>if Zbu S xs=true/\0<=a/\a<=b/\b<=xs.length then some (.p (.list (c&&decide (b=xs.length)) ((xs.take b.toNat).drop a.toNat))) else none
 | _,_,_=>none
def V.isInt : V->Option Int
 | .p (.int _ n)=>some n
 | _=>none
theorem V.isInt_some {x:V} {n} (h:x.isInt=some n): ∃k,x= .p (.int k n):=by
 unfold V.isInt at h;split at h
 ·rename_i k m;simp at h;exact ⟨k,by rw [h]⟩
 ·cases h
theorem Zak {d:Int} {x:Operand} :abd d fr (some x)=(ev fr x).isInt:=rfl
theorem K6 {c xs k k' a b} :(Y5 P t c xs a b none).map .p=Zci (YT P t) c xs (.p (.int k a)) (.p (.int k' b)):=by
 simp only [Y5,Zci]
 cases YT P t with
 | none=>rfl
 | some q =>
  obtain ⟨e,S⟩:=q
  cases e with
  | some n=>rfl
  | none=>simp only [];split<;>rfl
theorem Zdu {e c xs lo hi} (h:lo.isInt=none):Zci e c xs lo hi=none:=by
 unfold Zci;split
 ·simp [V.isInt] at h
 ·rfl
theorem Zdv {e c xs lo hi} (h:hi.isInt=none):Zci e c xs lo hi=none:=by
 unfold Zci;split
 ·simp [V.isInt] at h
 ·rfl
@[go_sem] theorem Zdx {c xs lo hi} :WK P H t fr (.p (.list c xs)) (some lo) (some hi) none=Zci (YT P t) c xs (ev fr lo) (ev fr hi):=by
 simp only [WK,Zak]
 cases h:(ev fr lo).isInt with
 | none=>simp [Zdu h]
 | some n =>
  cases h2:(ev fr hi).isInt with
  | none=>simp [Zdv h2]
  | some m=>obtain ⟨k,e⟩:=V.isInt_some h;obtain ⟨k2,e2⟩:=V.isInt_some h2;rw [e,e2,<- K6]
@[go_sem] theorem ZjP {α:Type} {f:α->PV} {l:List α} {S c k k' a b} (h0:0<=a) (h1:a<=b) (h2:b<=(l.length:Int)) :
  Zci (some (none,S)) c (l.map f) (.p (.int k a)) (.p (.int k' b))=if Zbu S (l.map f)=true then some (.p (.list (c&&decide (b=l.length)) (((l.take b.toNat).drop a.toNat).map f))) else none:=by
 simp only [Zci,List.length_map]
 by_cases h:Zbu S (l.map f)=true
 ·rw [if_pos ⟨h,h0,h1,h2⟩,if_pos h];simp
 ·rw [if_neg (fun q=>h q.1),if_neg h]
end
def ZdX (P:Program) (d:Option TypeDesc) (x i:V):Option V :=
 match d,x,i with
 | some .string,.p (.str s),.p (.int _ n)=>if 0<=n then (s[n.toNat]?).map fun b=> .p (.int .u8 b.toNat) else none
 | some (.array k e),.p (.agg cs),.p (.int _ n)=>if 0<=n/\n<k then (match tsz P e with | some m=>(apart P e cs (n.toNat*m)).map .p | none=>none) else none
 | _,_,_=>none
@[go_sem] theorem Zlt {P:Program} {t:TypeId} {x i:V} :Zaa P t x i=ZdX P (P.underlying t) x i:=Eq.trans rfl rfl
@[go_sem] theorem Zg1 {P:Program} {s:List UInt8} {k n} (h0:0<=n) (h1:n<(s.length:Int)):ZdX P (some .string) (.p (.str s)) (.p (.int k n))=some (.p (.int .u8 ((nth s n.toNat).toNat:Nat))):=by
 have h:n.toNat<s.length:=by omega
 simp [ZdX,h0,h,Zh h]
section
variable {P : Program} {H : List Obj} {t : TypeId} {fr : List V}
end
@[go_sem low] theorem ZcA {H:List Obj} {S b xs ys o n} :Uf H (some (S,b)) (.elems S xs) o n (some ys)=if xs.length=n/\okE S ys=true/\(n+ys.length)*b<=140737488355328/\n+ys.length<=140737488355328 then some (.sl o 0 (n+ys.length) (n+ys.length),ost H o (.elems S (xs++ys))) else none:=by simp [Uf]
@[go_sem] theorem Zn6 {n x} :refB n (.p x)=true:=by simp [refB]
@[go_sem] theorem Zhs {n} :ZT n []=true:=by simp [ZT]
@[go_sem] theorem Zfz {n x l} :ZT n (x::l)=(refB n x&&ZT n l):=by simp [ZT]
theorem Zcl {α:Type} {f:α->PV} {S:Nat} (h: ∀x,(f x).cells.length=S) (l:List α):Zbu S (l.map f)=true:=by
 cases l with
 | nil=>rfl
 | cons x l=>simp [Zbu,h]
def YD (F:Option (Nat×Nat×PV)) (H:List Obj) (x y:V):Option (V×List Obj):=match F,x,y with
 | some (S,by',z),.p (.int .i64 n),.p (.int .i64 m)=>if n=m/\0<=n/\(by':Int)*n<=281474976710656/\n<=281474976710656 then some (.sl H.length 0 n.toNat n.toNat,H++ [.elems S (List.replicate n.toNat z)]) else none
 | _,_,_=>none
theorem Kb {P:Program} {t:TypeId} {fr:List V} {H:List Obj} {x y:Operand} {F} (h:ZeH P t=some F):Yh P (.makeSlice t x y) fr H=YD (some F) H (ev fr x) (ev fr y):=by
 unfold ZeH at h
 split at h
 ·rename_i e hu
  split at h
  ·rename_i S' z' b h1 h2 h3
   split at h
   ·rename_i hc;simp at h;subst h
    have h3':(P.info? e).map (fun x=>(x.bytes:Int))=some (b:Int):=by
     cases hi:P.info? e with
     | none=>simp [hi] at h3
     | some i=>simp [hi] at h3 ⊢;rw [h3]
    simp only [Yh,hu,h2,hc.1,if_true,ZbD,h1,h3'];generalize ev fr x=X;generalize ev fr y=Y
    by_cases hX: ∃n,X= .p (.int .i64 n)
    ·obtain ⟨n,rfl⟩:=hX
     by_cases hY: ∃m,Y= .p (.int .i64 m)
     ·obtain ⟨m,rfl⟩:=hY;simp [YD,hc.2]
     ·have e1:YD (some (S',b,z')) H (.p (.int .i64 n)) Y=none:=by
       unfold YD;split
       ·rename_i hm;exact absurd ⟨_,rfl⟩ hY
       ·rfl
      rw [e1];split
      ·exact absurd ⟨_,rfl⟩ hY
      ·rfl
    ·have e1:YD (some (S',b,z')) H X Y=none:=by
      unfold YD;split
      ·exact absurd ⟨_,rfl⟩ hX
      ·rfl
     rw [e1];split
     ·exact absurd ⟨_,rfl⟩ hX
     ·rfl
   ·cases h
  ·cases h
 ·cases h
@[go_sem] theorem Zgv {H:List Obj} {S b:Nat} {z n} (h0:0<=n) (h1:(b:Int)*n<=281474976710656) (h2:n<=281474976710656):YD (some (S,b,z)) H (.p (.int .i64 n)) (.p (.int .i64 n))=some (.sl H.length 0 n.toNat n.toNat,H++ [.elems S (List.replicate n.toNat z)]):=by
 simp only [YD];rw [if_pos ⟨trivial,h0,h1,h2⟩]
theorem Zf7 (x y:Nat) (hx:x<9223372036854775808) (hy:y<9223372036854775808):IntKind.i64.wrap ((BitVec.ofInt 64 (x:Int)|||BitVec.ofInt 64 (y:Int)).toNat:Int)=((x|||y:Nat):Int):=by
 have e:(BitVec.ofInt 64 (x:Int)|||BitVec.ofInt 64 (y:Int)).toNat=x|||y:=by
  simp [BitVec.toNat_or,Nat.mod_eq_of_lt (show x<18446744073709551616 by omega),Nat.mod_eq_of_lt (show y<18446744073709551616 by omega)]
 have h:x|||y<2^63:=Nat.or_lt_two_pow (by omega) (by omega);rw [e];exact IntWalk.i64_in _ (by omega)
@[go_sem high] theorem ZiA {P:Program} {t:TypeId} {x y:Nat} (hx:x<9223372036854775808) (hy:y<9223372036854775808):X9 P .or t (.p (.int .i64 (x:Int))) (.p (.int .i64 (y:Int)))=some (.int .i64 ((x|||y:Nat):Int)):=by
 rw [ZeD];exact congrArg (fun q=>some (PV.int .i64 q)) (Zf7 x y hx hy)
def pw (k:Nat):Nat:=2^k
theorem ZdJ {k m:Nat} (h:k<=m):pw k<=pw m:=Nat.pow_le_pow_right (by omega) h
theorem Zeq : pw 62=4611686018427387904:=by decide
@[go_sem high] theorem Zgf {P:Program} {t:TypeId} {k'} {a:Int} (h0:0<=a) (h1:a<=62):X9 P .shl t (.p (.int .i64 1)) (.p (.int k' a))=some (.int .i64 ((pw a.toNat:Nat):Int)):=by
 rw [Zbv h0]
 have h2:min a.toNat IntKind.i64.bits=a.toNat:=by show min a.toNat 64=a.toNat;omega
 rw [h2,Int.one_mul]
 have h3:((2:Int)^a.toNat)=((pw a.toNat:Nat):Int):=by simp [pw]
 rw [h3];have:=ZdJ (show a.toNat<=62 by omega);have:=Zeq;rw [IntWalk.i64_in _ (by omega)]
attribute [go_sem] List.length_append List.map_append not_false_eq_true not_true_eq_false false_and and_false true_or or_true false_or or_false Classical.not_not Bool.false_eq_true Bool.and_false Bool.false_and
end Go.AM
namespace Go.AM
open Go.RowKit
theorem K4 {P ds frJ H} {K K':List V->Prop} : ∀(l:List Oper) (i:Nat) (vals:List V),(∀ys,ys.length=vals.length+l.length->K ys->K' ys)->hd P ds frJ H K i l vals->hd P ds frJ H K' i l vals
 | [],i,vals,hk,h=>hk vals rfl h
 | o::l,i,vals,hk,h=>by
  have ih: ∀y,hd P ds frJ H K (i+1) l (vals++ [y])->hd P ds frJ H K' (i+1) l (vals++ [y]):=fun y=>K4 l (i+1) (vals++ [y]) fun ys hy=>hk ys (by simp at hy ⊢;omega);simp only [hd] at h ⊢
  split at h
  ·obtain ⟨y,h1,h2⟩:=h;exact ⟨y,h1,ih y h2⟩
  ·unfold ZK at h ⊢
   split at h
   ·exact ⟨fun e=>by obtain ⟨y,h1,h2⟩:=h.1 e;exact ⟨y,h1,ih y h2⟩,fun e=>ih _ (h.2 e)⟩
   ·exact ih _ h
   ·exact h.elim
def Ym : List (Option Nat)->List V->List V->List V
 | some d::ds,v::vals,fr=>Ym ds vals (pt fr d v)
 | none::ds,_::vals,fr=>Ym ds vals fr
 | _,_,fr=>fr
def exq (A:V->Prop) (B:V->Prop):Prop:= ∃y,A y/\B y
section
variable {P : Program} {ds : List (Option Nat)} {frJ : List V} {H : List Obj} {K : List V -> Prop} {i : Nat} {r : List Oper} {vals : List V} {d : Option Nat} {op : Op} {t : TypeId} {ps : String} {af : Array Edge}
@[go_sem ↓, go_sem] theorem Zoi {v:V} {B:V->Prop} {t} :exq (fun y=>v=y) (Zw B t)=B v:=by simp [exq,Zw]
theorem ZM {f azs} {z:PV} {B:V->Prop} {t} (h:ACalls P f azs [] fun x H'=>x= .p z/\H'= []) (k:B (.p z)) (ha:ZT 0 azs=true:=by rfl) :
  exq (fun y=>ACalls P f azs H (Zw (Zw (fun x H'=>x=y/\H'=H) ⟨⟩) ⟨⟩)) (Zw B t) :=
 ⟨.p z,h.use ⟨rfl,rfl⟩ ha,k⟩
end
section
variable {P : Program} {fr : List V} {H : List Obj} {k : V -> List Obj -> Prop} {d : Option Nat} {t : TypeId} {ps : String} {af : Array Edge} {g : Option (Nat × Bool)}
@[go_sem ↓] theorem ZeW {u n l} :Zg P ⟨d,.buildSlice u n (List.toArray l),t,ps,af,g⟩ fr H k=pst ((JD (Qe P u) H n (l.map fun x=>(x.1,ev fr x.2))).map .p) (Zw (fun v=>k v H) ⟨⟩):=by
 simp only [Zg]
 cases (JD (Qe P u) H n (l.map fun x=>(x.1,ev fr x.2)))<;>simp [pst,Zw]
@[go_sem] theorem Zfx {S n l} :JD (some S) H n l=if n=l.length/\n*S<=16777216/\0<S then (V7 H S 0 l).map (.list false) else none:=Eq.trans rfl rfl
@[go_sem ↓] theorem Zdq {x} :Zg P ⟨d,.move x,t,ps,af,g⟩ fr H k=Zl P ⟨d,.move x,t,ps,af,g⟩ fr H k:=rfl
@[go_sem ↓] theorem Zb4 {x} :Zg P ⟨d,.assign x,t,ps,af,g⟩ fr H k=Zl P ⟨d,.assign x,t,ps,af,g⟩ fr H k:=rfl
@[go_sem ↓] theorem ZeK {x y z} :Zg P ⟨d,.pick x y z,t,ps,af,g⟩ fr H k=Zl P ⟨d,.pick x y z,t,ps,af,g⟩ fr H k:=rfl
@[go_sem ↓] theorem ZcP {x} :Zg P ⟨d,.alloc x,t,ps,af,g⟩ fr H k=Zl P ⟨d,.alloc x,t,ps,af,g⟩ fr H k:=rfl
@[go_sem ↓] theorem Zfb {x y} :Zg P ⟨d,.box x y,t,ps,af,g⟩ fr H k=Zl P ⟨d,.box x y,t,ps,af,g⟩ fr H k:=rfl
@[go_sem ↓] theorem ZcV {x y} :Zg P ⟨d,.build x y,t,ps,af,g⟩ fr H k=Zl P ⟨d,.build x y,t,ps,af,g⟩ fr H k:=rfl
@[go_sem ↓] theorem ZdY {x y} :Zg P ⟨d,.load x y,t,ps,af,g⟩ fr H k=Zl P ⟨d,.load x y,t,ps,af,g⟩ fr H k:=rfl
@[go_sem ↓] theorem Zc9 {x y z} :Zg P ⟨d,.store x y z,t,ps,af,g⟩ fr H k=Zl P ⟨d,.store x y z,t,ps,af,g⟩ fr H k:=rfl
@[go_sem ↓] theorem Zaw {x} :Zg P ⟨d,.nilCheck x,t,ps,af,g⟩ fr H k=Zl P ⟨d,.nilCheck x,t,ps,af,g⟩ fr H k:=rfl
@[go_sem ↓] theorem Zc7 {x y z u v} :Zg P ⟨d,.binOp x y z u v,t,ps,af,g⟩ fr H k=Zl P ⟨d,.binOp x y z u v,t,ps,af,g⟩ fr H k:=rfl
@[go_sem ↓] theorem Zen {x y z} :Zg P ⟨d,.unOp x y z,t,ps,af,g⟩ fr H k=Zl P ⟨d,.unOp x y z,t,ps,af,g⟩ fr H k:=rfl
@[go_sem ↓] theorem Zbm {x y z} :Zg P ⟨d,.convert x y z,t,ps,af,g⟩ fr H k=Zl P ⟨d,.convert x y z,t,ps,af,g⟩ fr H k:=rfl
@[go_sem ↓] theorem ZaM {x y z} :Zg P ⟨d,.makeFunc x y z,t,ps,af,g⟩ fr H k=Zl P ⟨d,.makeFunc x y z,t,ps,af,g⟩ fr H k:=rfl
@[go_sem ↓] theorem Kl {x y z} :Zg P ⟨d,.makeSlice x y z,t,ps,af,g⟩ fr H k=Zl P ⟨d,.makeSlice x y z,t,ps,af,g⟩ fr H k:=rfl
@[go_sem ↓] theorem Zdc {x y z u v} :Zg P ⟨d,.slice x y z u v,t,ps,af,g⟩ fr H k=Zl P ⟨d,.slice x y z u v,t,ps,af,g⟩ fr H k:=rfl
@[go_sem ↓] theorem Kk {x y z} :Zg P ⟨d,.fieldAddr x y z,t,ps,af,g⟩ fr H k=Zl P ⟨d,.fieldAddr x y z,t,ps,af,g⟩ fr H k:=rfl
@[go_sem ↓] theorem ZcW {x y z} :Zg P ⟨d,.field x y z,t,ps,af,g⟩ fr H k=Zl P ⟨d,.field x y z,t,ps,af,g⟩ fr H k:=rfl
@[go_sem ↓] theorem Ki {x y z} :Zg P ⟨d,.indexAddr x y z,t,ps,af,g⟩ fr H k=Zl P ⟨d,.indexAddr x y z,t,ps,af,g⟩ fr H k:=rfl
@[go_sem ↓] theorem ZcH {x y z} :Zg P ⟨d,.index x y z,t,ps,af,g⟩ fr H k=Zl P ⟨d,.index x y z,t,ps,af,g⟩ fr H k:=rfl
@[go_sem ↓] theorem Zbc {x y} :Zg P ⟨d,.extract x y,t,ps,af,g⟩ fr H k=Zl P ⟨d,.extract x y,t,ps,af,g⟩ fr H k:=rfl
@[go_sem ↓] theorem Zd2 {x y z} :Zg P ⟨d,.call ⟨.value x,y,z⟩,t,ps,af,g⟩ fr H k=Zl P ⟨d,.call ⟨.value x,y,z⟩,t,ps,af,g⟩ fr H k:=rfl
@[go_sem ↓] theorem Zfc {y z} :Zg P ⟨d,.call ⟨.builtin .len,y,z⟩,t,ps,af,g⟩ fr H k=Zl P ⟨d,.call ⟨.builtin .len,y,z⟩,t,ps,af,g⟩ fr H k:=rfl
@[go_sem ↓] theorem ZfE {y z} :Zg P ⟨d,.call ⟨.builtin .max,y,z⟩,t,ps,af,g⟩ fr H k=Zl P ⟨d,.call ⟨.builtin .max,y,z⟩,t,ps,af,g⟩ fr H k:=rfl
@[go_sem ↓] theorem ZeS {y z} :Zg P ⟨d,.call ⟨.builtin .min,y,z⟩,t,ps,af,g⟩ fr H k=Zl P ⟨d,.call ⟨.builtin .min,y,z⟩,t,ps,af,g⟩ fr H k:=rfl
theorem Ut {o fr' H'} (h:fr=fr') (h2:H=H'):Zg P o fr H k=Zg P o fr' H' k:=by rw [h,h2]
end
attribute [congr] Ut
attribute [go_sem] List.filter_cons List.filter_nil
end Go.AM
namespace Go.AM
open Go.RowKit
mutual
/-- no memory in it -/
def Zda : PV->Bool
 | .list _ xs=>xs.isEmpty
 | .agg cs=>UX cs
 | _=>true
def UX : List PV->Bool
 | []=>true
 | x::l=>Zda x&&UX l
end
theorem YH : ∀ {l:List PV},UX l=true-> ∀(j:Nat) (x:PV),l[j]? =some x->Zda x=true
 | [],_,j,x,h=>by simp at h
 | y::l,hh,j,x,h=>by
  simp [UX] at hh
  cases j with
  | zero=>simp at h;subst h;exact hh.1
  | succ j=>exact YH hh.2 j x (by simpa using h)
theorem RP.anywhere {X X':Nat->Prop} {w w' x v} (h:RP X w x v) (hf:Zda x=true):RP X' w' x v:=by
 induction h with
 | int k n=>exact .int k n
 | bool b=>exact .bool b
 | str s=>exact .str s
 | nilp=>exact .nilp
 | nili=>exact .nili
 | nilf=>exact .nilf
 | nilm=>exact .nilm
 | fn f=>exact .fn f
 | nils cl=>exact .nils cl
 | emp cl a cap hc hm ha=>exact .emp cl a cap hc hm ha
 | list cl xs b off cap S u hX hb hc hm hcl hS hu hr ih =>
  have:xs= []:=by simpa [Zda] using hf
  subst this;exact .emp cl _ cap (fun h=>by simpa using hcl h) hm (fun _ x hx=>by simp at hx;subst hx;rfl)
 | agg cs a hs _ ih=>exact .agg cs a hs fun j c hj=>ih j c hj (YH (by simpa [Zda] using hf) j c hj)
def vw (H:List Obj):V->Option V
 | .p x=>some (.p x)
 | .fn f [] []=>some (.fn f [] [])
 | .sl o off len tot=>match oat H o with
  | .elems _ xs=>if xs.length=tot/\off+len<=tot then some (.p (.list false ((xs.take (off+len)).drop off))) else none
  | _=>none
 | _=>none
def vws (H:List Obj):List V->Option (List V)
 | []=>some []
 | x::l=>match vw H x,vws H l with | some y,some ys=>some (y::ys) | _,_=>none
abbrev Um : Nat->Prop:=fun _=>False
theorem Wm {b:Nat} : ¬Own Um [] b:=by simp [Own]
theorem Zf9 {F H ι w x v y} (hr:Rel F H ι w) (h:RV F H ι w x v) (hy:vw H x=some y):RV Um [] [] w y v:=by
 unfold vw at hy
 split at hy
 ·simp at hy;subst hy
  cases h with | p _ _ h=>exact .p _ _ (h.weaker fun b hb=>absurd hb Wm)
 ·simp at hy;subst hy;generalize v=u at h
  cases h with
  | fn _ _ _ a e hs ht _ _=>exact .fn _ [] [] a e hs ht (fun j c hj=>by simp at hj) (fun j c hj=>by simp at hj)
 ·rename_i o off len tot
  split at hy
  ·rename_i S xs ho
   split at hy
   ·rename_i hc;simp at hy;subst hy;exact .p _ _ (WE _ (fun b _ hb=>Wm hb) (fun b _ hs=>⟨Wm,hs,rfl⟩) hr (Zs ho (by simp)) hc.1 hc.2 h)
   ·cases hy
  ·cases hy
 ·cases hy
theorem QL {H} : ∀ {l l':List V},vws H l=some l'->l'.length=l.length/\ ∀(j:Nat) (y:V),l'[j]? =some y-> ∃x,l[j]? =some x/\vw H x=some y
 | [],l',h=>by simp [vws] at h;subst h;exact ⟨rfl,fun j y hj=>by simp at hj⟩
 | x::l,l',h=>by
  simp only [vws] at h
  split at h
  ·rename_i y ys h1 h2;simp at h;subst h;obtain ⟨e,hg⟩:=QL h2;refine ⟨by simp [e],fun j z hj=> ?_⟩
   cases j with
   | zero=>simp at hj;subst hj;exact ⟨x,by simp,h1⟩
   | succ j=>obtain ⟨q,q1,q2⟩:=hg j z (by simpa using hj);exact ⟨q,by simpa using q1,q2⟩
  ·cases h
theorem Good.lift {F H ι w H1 ι1 w'} (hr:Rel F H ι w) (g:Good Um [] [] w H1 ι1 w') (h1: ∀(o:Nat) (ob:Obj),H1[o]? =some ob-> ∃S xs,ob= .elems S xs/\UX xs=true):Good (Own F ι) [] [] w H1 ι1 w':=by
 have hnew: ∀b,some b∈ι1-> ¬b<w.heap.size:=fun b hb hlt=>g.own b hlt (by simp) hb
 have hold: ∀b,Own F ι b->b<w.heap.size:=fun b hb=>by
  rcases hb with hb | hb
  ·exact hr.fin b hb
  ·obtain ⟨i,hi⟩:=List.mem_iff_getElem?.1 hb;exact (hr.avo i b hi).2
 refine Good.up hr.env.fresh ⟨⟨g.rel.len,fun b hb=>by have:=hold b hb;have:=g.size;omega,g.rel.inj,fun i b hi=> ?_,fun o cs ho=> ?_,fun o S xs ho=> ?_,fun o es ho=>(by obtain ⟨S,xs,e,_⟩:=h1 o _ ho;cases e),fun o T E r bs ho=>(by obtain ⟨S,xs,e,_⟩:=h1 o _ ho;cases e)⟩,g.os,g.tape,g.output,g.shape,g.size,g.keep,g.own,g.hx⟩
 ·refine ⟨fun hb=>hnew b (List.mem_of_getElem? hi) (hold b hb),(g.rel.avo i b hi).2⟩
 ·obtain ⟨S,xs,e,_⟩:=h1 o _ ho
  cases e
 ·rcases g.rel.elm o S xs ho with e | ⟨b,c,t,cap,e1,e2,e3,e4,e5,e6,e7⟩
  ·exact .inl e
  ·refine .inr ⟨b,c,t,cap,e1,e2,e3,e4,e5,e6,fun i x j y hi hj=> ?_⟩;obtain ⟨S',xs',e,hf⟩:=h1 o _ ho;simp at e;obtain ⟨rfl,rfl⟩:=e;have hx:=YH hf i x hi;refine (e7 i x j y hi hj).anywhere ?_
   cases x<;>simp only [PV.cells] at hj
   case agg cs=>exact YH (by simpa [Zda] using hx) j y hj
   all_goals (cases j with
    | zero=>simp at hj;subst hj;exact hx
    | succ j=>simp at hj)
theorem Ws {w:World} (he:Env Um [] w):Rel Um [] [] w:=⟨⟨rfl,fun b hb=>hb.elim,fun i j b hi=>by simp at hi,fun i b hi=>by simp at hi,fun o cs ho=>by simp at ho,fun o S xs ho=>by simp at ho,fun o es ho=>by simp at ho,fun o T E r bs ho=>by simp at ho⟩,he⟩
theorem ACalls.view {P g args args'} {y:PV} {H:List Obj} {K:V->List Obj->Prop} (h:ACalls P g args' [] fun x H'=>x= .p y/\H'= []) (hv:vws H args=some args') (hy:Zda y=true) (k:K (.p y) H):ACalls P g args H K:=by
 refine ⟨h.1,fun F ι w vs hr hvs=> ?_⟩;obtain ⟨e,hg⟩:=QL hv;refine (h.2 Um [] w vs (Ws hr.env.noth) ⟨by rw [hvs.1,e],fun j c hj=> ?_⟩).mono ?_
 ·obtain ⟨x,h1,h2⟩:=hg j c hj;exact Zf9 hr (hvs.2 j x h1) h2
 ·rintro e w' ⟨x,H',ι',v,rfl,⟨rfl,rfl⟩,gd,rv⟩;have g2:=(gd.lift hr (fun o ob ho=>by simp at ho)).behind hr;have hι:ι'= []:=List.eq_nil_of_length_eq_zero gd.rel.len;subst hι;simp only [List.map_nil,List.append_nil] at g2
  cases rv with | p _ _ rp =>
  exact ⟨_,H,ι,v,rfl,k,g2,.p _ _ (rp.anywhere hy)⟩
theorem ACalls.viewF {P g args args'} {S n:Nat} {xs:List PV} {H:List Obj} {K:V->List Obj->Prop} (h:ACalls P g args' [] fun x H'=>x= .sl 0 0 n n/\H'= [.elems S xs]) (hv:vws H args=some args') (hy:UX xs=true) (k:K (.sl H.length 0 n n) (H++ [.elems S xs])):ACalls P g args H K:=by
 refine ⟨h.1,fun F ι w vs hr hvs=> ?_⟩;obtain ⟨e,hg⟩:=QL hv;refine (h.2 Um [] w vs (Ws hr.env.noth) ⟨by rw [hvs.1,e],fun j c hj=> ?_⟩).mono ?_
 ·obtain ⟨x,h1,h2⟩:=hg j c hj;exact Zf9 hr (hvs.2 j x h1) h2
 ·rintro e w' ⟨x,H',ι',v,rfl,⟨rfl,rfl⟩,gd,rv⟩
  have gl:=gd.lift hr (fun o ob ho=>by
   cases o with
   | zero=>simp at ho;exact ⟨S,xs,ho.symm,hy⟩
   | succ o=>simp at ho)
  have g2:=gl.behind hr
  have rv2:RV (Own F ι) [.elems S xs] ι' w' (.sl 0 0 n n) v:=by
   cases rv with
   | slNil _ S a h3 h2=>exact .slNil _ S a h3 h2
   | sl _ _ _ _ b S cap t xs c h1 h2 ht hw hcap hl hlen hm=>exact .sl _ _ _ _ b S cap t xs c h1 h2 ht hw hcap hl hlen hm
   | slD _ _ _ _ _ h1=>simp at h1
   | slS _ _ _ _ _ S xs h1 hne=>exact .slS _ _ _ _ _ S xs h1 hne
   | slC _ _ _ _ _ _ h1=>simp at h1
  exact ⟨_,_,_,v,rfl,by simpa [shV,shO] using k,g2,by simpa [shV] using rv2.sh hr.len⟩
@[go_sem] theorem Zl8 {o off len tot r} :W5 (.sl o off len tot::r)=none:=Eq.trans rfl rfl
attribute [go_sem] Option.map_none
end Go.AM
set_option linter.unusedVariables false
set_option linter.unusedSimpArgs false
namespace Go.Proofs.YtgknhiknjimdpaaGreatDoor.K
open Go Go.AM
def tot (l:List Nat):Nat:=l.foldr (· + ·) 0
end Go.Proofs.YtgknhiknjimdpaaGreatDoor.K
