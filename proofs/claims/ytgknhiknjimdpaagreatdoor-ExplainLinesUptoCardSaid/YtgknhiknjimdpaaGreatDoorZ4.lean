/- Declarations that the closing texts need, part 4: joined by tools/slim.py. -/
import Derived.Test.YtgknhiknjimdpaaGreatDoorZ3
set_option linter.unusedVariables false
set_option linter.unusedSimpArgs false
universe u
namespace Go.AM
open Go.RowKit
structure Tk {α:Sort u} (a:α):Type where
def Zw {α:Sort u} (a:α) (_:Tk a):α:=a
@[go_sem] theorem ZdE {α β:Type} {f:α->β} {t x} :Zw f t x=f x:=Eq.trans rfl rfl
@[go_sem ↓] theorem ZeI {α β:Type} {f:α->β->Prop} {t x y} :Zw f t x y=f x y:=Eq.trans rfl rfl
@[go_sem ↓] theorem Zd2 {α β γ:Type} {f:α->β->γ->Prop} {t x y z} :Zw f t x y z=f x y z:=Eq.trans rfl rfl
def pst (x:Option V) (K:V->Prop):Prop:=match x with | some v=>K v | none=>False
def mst (x:Option (V×List Obj)) (K:V->List Obj->Prop):Prop:=match x with | some (v,H)=>K v H | none=>False
def bst (x:V) (K:Bool->Prop):Prop:=match x with | .p (.bool b)=>K b | _=>False
def hst (x:Option (List Obj)) (K:List Obj->Prop):Prop:=match x with | some H=>K H | none=>False
@[go_sem ↓, go_sem] theorem ZgL {v K} :pst (some v) K=K v:=Eq.trans rfl rfl
@[go_sem ↓, go_sem] theorem ZfL {v H K} :mst (some (v,H)) K=K v H:=Eq.trans rfl rfl
@[go_sem ↓, go_sem] theorem Zgn {H K} :hst (some H) K=K H:=Eq.trans rfl rfl
@[congr] theorem Ze2 {x x' K} (h:x=x'):pst x K=pst x' K:=by rw [h]
@[congr] theorem ZdO {x x' K} (h:x=x'):mst x K=mst x' K:=by rw [h]
@[congr] theorem Zd0 {x x' K} (h:x=x'):hst x K=hst x' K:=by rw [h]
def idF (fr:List V):List V:=fr
@[go_sem] theorem ZjS {fr} :idF fr=fr:=Eq.trans rfl rfl
section code
variable {cuts : List Nat} {P : Program} {fr : List V} {H : List Obj} {Q : Exit -> List V -> List Obj -> Prop}
@[go_sem ↓] theorem ZeR : awp cuts P .skip fr H Q=Q .normal fr H:=Eq.trans rfl rfl
@[go_sem ↓] theorem Zcg {id} {l:List Oper} :awp cuts P (.region id l.toArray false) fr H Q=X0 P (l.map (·.dst)) l (idF fr) H (Zw (Q .normal) ⟨⟩):=by simp [awp,idF,Zw]
@[go_sem ↓] theorem ZdA {id ops} :awp cuts P (.region id ops true) fr H Q=AWP P (.region id (Zw ops ⟨⟩) true) fr H (Zw Q ⟨⟩):=by simp [awp,Zw]
@[go_sem ↓] theorem ZhM {x y} :awp [] P (.seq x y) fr H Q=awp [] P x fr H (YI (fun fr H=>awp [] P y fr H Q) Q):=by
 rw [awp];cases hid x<;>simp
def Za7 (b:Bool) (A B:Prop):Prop:=if b then A else B
def QN (cuts:List Nat):Option Nat->Bool
 | some i=>cuts.contains i
 | none=>false
@[go_sem ↓] theorem Zfg {k x y} :awp (k::cuts) P (.seq x y) fr H Q=Za7 (QN (k::cuts) (hid x)) (Zw (AWP P (.seq (Zw x ⟨⟩) (Zw y ⟨⟩)) fr H (Zw Q ⟨⟩)) ⟨⟩) (Zw (awp (k::cuts) P x fr H (YI (fun fr H=>awp (k::cuts) P y fr H Q) Q)) ⟨⟩):=by
 rw [awp];cases hid x<;>simp [Za7,QN,Zw]
@[go_sem ↓, go_sem] theorem ZeP {A B:Prop} {t} :Za7 true (Zw A t) B=A:=by simp [Za7,Zw]
@[go_sem ↓, go_sem] theorem ZcZ {A B:Prop} {t} :Za7 false A (Zw B t)=B:=by simp [Za7,Zw]
theorem QR {b b' A B} (h:b=b'):Za7 b A B=Za7 b' A B:=by rw [h]
@[go_sem ↓] theorem Zdo {id ops d} :hid (.region id ops d)=some id:=Eq.trans rfl rfl
@[go_sem ↓] theorem ZiB {x y} :hid (.seq x y)=hid x:=Eq.trans rfl rfl
@[go_sem ↓] theorem Zer {id c} :hid (.block id c)=hid c:=Eq.trans rfl rfl
@[go_sem] theorem ZdJ {i} :QN [] (some i)=false:=Eq.trans rfl rfl
@[go_sem] theorem Zdl {k i} :QN (k::cuts) (some i)=(decide (i=k)||QN cuts (some i)):=by by_cases h:i=k<;>simp [QN,h]
@[go_sem ↓] theorem Zfl {c x y} :awp cuts P (.cond c x y) fr H Q=X3 (ev fr c) (Zw (awp cuts P x fr H Q) ⟨⟩) (Zw (awp cuts P y fr H Q) ⟨⟩):=Eq.trans rfl rfl
@[go_sem ↓] theorem ZdC {id c} :awp cuts P (.block id c) fr H Q=awp cuts P c fr H (XO id Q):=Eq.trans rfl rfl
@[go_sem ↓] theorem ZdL {id} :awp cuts P (.exit id) fr H Q=Q (.exit id) fr H:=Eq.trans rfl rfl
@[go_sem ↓] theorem Zgx : awp cuts P .ret fr H Q=Q .ret fr H:=Eq.trans rfl rfl
@[go_sem ↓] theorem Ze4 {c} :awp cuts P (.loop c) fr H Q=AWP P (.loop (Zw c ⟨⟩)) fr H (Zw Q ⟨⟩):=Eq.trans rfl rfl
@[go_sem ↓] theorem ZeL {c t} :awp cuts P (Zw c t) fr H Q=awp cuts P c fr H Q:=Eq.trans rfl rfl
theorem JP {c fr' H'} (h:fr=fr') (h2:H=H'):awp cuts P c fr H Q=awp cuts P c fr' H' Q:=by rw [h,h2]
theorem Jk {c fr' H'} (h:fr=fr') (h2:H=H'):AWP P c fr H Q=AWP P c fr' H' Q:=by rw [h,h2]
@[go_sem ↓] theorem Zbb {A:List V->List Obj->Prop} :YI A Q .normal fr H=A fr H:=Eq.trans rfl rfl
@[go_sem ↓] theorem Zc5 {A:List V->List Obj->Prop} {id} :YI A Q (.exit id) fr H=Q (.exit id) fr H:=Eq.trans rfl rfl
@[go_sem ↓] theorem Zey {A:List V->List Obj->Prop} :YI A Q .ret fr H=Q .ret fr H:=Eq.trans rfl rfl
@[go_sem ↓] theorem ZaK {id} :XO id Q .normal fr H=Q .normal fr H:=Eq.trans rfl rfl
@[go_sem ↓] theorem Zc6 {id} :XO id Q .ret fr H=Q .ret fr H:=Eq.trans rfl rfl
@[go_sem ↓] theorem Zb3 {id id'} :XO id Q (.exit id') fr H=if id'=id then Q .normal fr H else Q (.exit id') fr H:=Eq.trans rfl rfl
theorem Uv {A:List V->List Obj->Prop} {e fr' H'} (h:fr=fr') (h2:H=H'):YI A Q e fr H=YI A Q e fr' H':=by rw [h,h2]
theorem VE {id e fr' H'} (h:fr=fr') (h2:H=H'):XO id Q e fr H=XO id Q e fr' H':=by rw [h,h2]
@[go_sem ↓] theorem Zco {rs} {Q:V->List Obj->Prop} :Vy P rs Q .normal fr H=mst ((Z3 P fr H rs).map fun xs=>(Xm xs,H)) (Zw Q ⟨⟩):=by
 simp only [Vy,Zw];split<;>simp_all [mst]
@[go_sem ↓] theorem ZhH {rs} {Q:V->List Obj->Prop} :Vy P rs Q .ret fr H=mst ((Z3 P fr H rs).map fun xs=>(Xm xs,H)) (Zw Q ⟨⟩):=by
 simp only [Vy,Zw];split<;>simp_all [mst]
theorem Q0 {rs e fr' H'} {Q:V->List Obj->Prop} (h:fr=fr') (h2:H=H'):Vy P rs Q e fr H=Vy P rs Q e fr' H':=by rw [h,h2]
@[go_sem] theorem Zdm : Z3 P fr H []=some []:=Eq.trans rfl rfl
@[go_sem] theorem Zdd {t l} :Z3 P fr H (.tmp t::l)=(Z3 P fr H l).map (gt fr t:: ·):=by
 simp only [Z3,Zec];cases Z3 P fr H l<;>rfl
@[go_sem] theorem Zdy {x} :Xm [x]=x:=Eq.trans rfl rfl
@[go_sem] theorem ZbN : Xm []= .tup []:=Eq.trans rfl rfl
@[go_sem] theorem QJ {x y l} :Xm (x::y::l)= .tup (x::y::l):=Eq.trans rfl rfl
end code
attribute [congr] QR JP Jk Uv VE Q0
@[go_sem] theorem Zjx {x:V} {l} :gt (x::l) 0=x:=Eq.trans rfl rfl
@[go_sem] theorem Zit {x:V} {l n} :gt (x::l) (n+1)=gt l n:=Eq.trans rfl rfl
@[go_sem] theorem Zia {x v:V} {l} :pt (x::l) 0 v=v::l:=Eq.trans rfl rfl
@[go_sem] theorem ZiZ {x v:V} {l n} :pt (x::l) (n+1) v=x::pt l n v:=Eq.trans rfl rfl
@[go_sem] theorem Zg9 {fr d v} :ptO fr (some d) v=pt fr d v:=Eq.trans rfl rfl
@[go_sem] theorem ZgJ {fr v} :ptO fr none v=fr:=Eq.trans rfl rfl
@[go_sem] theorem Zgi {x:Obj} {l} :oat (x::l) 0=x:=Eq.trans rfl rfl
@[go_sem] theorem ZgP {x:Obj} {l n} :oat (x::l) (n+1)=oat l n:=Eq.trans rfl rfl
@[go_sem] theorem ZgI {x v:Obj} {l} :ost (x::l) 0 v=v::l:=Eq.trans rfl rfl
@[go_sem] theorem ZgV {x v:Obj} {l n} :ost (x::l) (n+1) v=x::ost l n v:=Eq.trans rfl rfl
@[go_sem] theorem Zjf {fr t} :evx fr (.tmp t)=gt fr t:=Eq.trans rfl rfl
@[go_sem] theorem Zki {fr t} :ev fr (.tmp t)=gt fr t:=Eq.trans rfl rfl
@[go_sem] theorem Zi6 {fr f} :ev fr (.func f)= .fn (.func f) [] []:=Eq.trans rfl rfl
@[go_sem] theorem Zke {fr k n} :ev fr (.const (.int k n))= .p (.int k n):=Eq.trans rfl rfl
@[go_sem] theorem Zji {fr b} :ev fr (.const (.bool b))= .p (.bool b):=Eq.trans rfl rfl
@[go_sem] theorem Zks {fr s} :ev fr (.const (.string s))= .p (.str s.data.toList):=Eq.trans rfl rfl
@[go_sem] theorem Zim {fr} :ev fr (.const (.slice none 0 0))= .p (.list true []):=Eq.trans rfl rfl
@[go_sem] theorem ZjN {fr l} :ev fr (.const (.agg (List.toArray l)))=match cvs l with | some xs=> .p (.agg xs) | none=> .junk:=Eq.trans rfl rfl
@[go_sem] theorem ZhN {fr d} {l:List (Option Nat)} :gAt fr (some d::l) 0=gt fr d:=by simp [gAt]
@[go_sem] theorem ZfQ {fr o n} {l:List (Option Nat)} :gAt fr (o::l) (n+1)=gAt fr l n:=by simp [gAt]
section ops
variable {P : Program} {fr : List V} {H : List Obj} {ds : List (Option Nat)} {K : List V -> List Obj -> Prop} {r : List Oper} {d : Option Nat} {t : TypeId} {ps : String} {af : Array Edge} {g : Option (Nat × Bool)} {k : V -> List Obj -> Prop}
theorem Q8 {l fr' H'} (h:fr=fr') (h2:H=H'):X0 P ds l fr H K=X0 P ds l fr' H' K:=by rw [h,h2]
theorem UM {o fr' H'} (h:fr=fr') (h2:H=H'):Zj P o fr H k=Zj P o fr' H' k:=by rw [h,h2]
@[go_sem ↓] theorem Zhb : X0 P ds [] fr H K=K fr H:=Eq.trans rfl rfl
@[go_sem] theorem Zd4 {op} :X0 P ds (⟨d,op,t,ps,af,none⟩::r) fr H K=Zj P ⟨d,op,t,ps,af,none⟩ fr H (Zw (fun x H'=>X0 P ds r (ptO fr d x) H' K) ⟨⟩):=Eq.trans rfl rfl
@[go_sem] theorem Zdi {op j b} :X0 P ds (⟨d,op,t,ps,af,some (j,b)⟩::r) fr H K=ZI (gAt fr ds j) b (Zw (Zj P ⟨d,op,t,ps,af,none⟩ fr H (Zw (fun x H'=>X0 P ds r (ptO fr d x) H' K) ⟨⟩)) ⟨⟩) (Zw (X0 P ds r (ptO fr d (.tup [])) H K) ⟨⟩):=by
 simp only [X0,Zw];unfold ZI
 split<;>rfl
theorem ZA {op:Op} (h:ZQ op=none) (h2:Yr P op fr H=none):Zj P ⟨d,op,t,ps,af,g⟩ fr H k=pst (Zt P op fr H) fun x=>k x H:=by
 simp only [Zj,h,aop,h2]
 all_goals (cases Zt P op fr H<;>rfl)
theorem XQ {op:Op} (h:ZQ op=none) (h2:Zt P op fr H=none):Zj P ⟨d,op,t,ps,af,g⟩ fr H k=mst (Yr P op fr H) k:=by
 simp only [Zj,h,aop,h2,mst]
 all_goals (cases Yr P op fr H<;>rfl)
@[go_sem ↓] theorem Zdk {x} :Zj P ⟨d,.move x,t,ps,af,g⟩ fr H k=k (ev fr x) H:=by rw [ZA rfl rfl];rfl
@[go_sem ↓] theorem Zby {x} :Zj P ⟨d,.assign x,t,ps,af,g⟩ fr H k=k (ev fr x) H:=by rw [ZA rfl rfl];rfl
def vif (b:Bool) (x y:V):V:=if b then x else y
@[go_sem] theorem ZhJ {x y} :vif true x y=x:=Eq.trans rfl rfl
@[go_sem] theorem ZeO {x y} :vif false x y=y:=Eq.trans rfl rfl
@[go_sem] theorem Zgd {b x y} :vif b (.p (.bool x)) (.p (.bool y))= .p (.bool (if b then x else y)):=by cases b<;>rfl
@[go_sem] theorem ZfY {b} :asB (.p (.bool b))=some b:=Eq.trans rfl rfl
@[go_sem ↓] theorem ZcV {c x y} :Zj P ⟨d,.pick c x y,t,ps,af,g⟩ fr H k=pst ((asB (ev fr c)).map fun b=>vif b (ev fr x) (ev fr y)) (Zw (fun v=>k v H) ⟨⟩):=by
 rw [ZA rfl rfl];simp only [Zt,ZO]
 cases asB (ev fr c)<;>rfl
@[go_sem ↓] theorem Zc8 {u x} :Zj P ⟨d,.load u x,t,ps,af,g⟩ fr H k=pst (Wh P H u (ev fr x)) (Zw (fun v=>k v H) ⟨⟩):=by rw [ZA rfl rfl];rfl
@[go_sem ↓] theorem Zee {op u x y u2} :Zj P ⟨d,.binOp op u x y u2,t,ps,af,g⟩ fr H k=pst ((X5 P op u (ev fr x) (ev fr y)).map .p) (Zw (fun v=>k v H) ⟨⟩):=by rw [ZA rfl rfl];rfl
@[go_sem ↓] theorem Zf3 {op u x} :Zj P ⟨d,.unOp op u x,t,ps,af,g⟩ fr H k=pst ((aun op (ev fr x)).map .p) (Zw (fun v=>k v H) ⟨⟩):=by rw [ZA rfl rfl];rfl
def ZcL (x y:Option PV):Option PV:=match x with | some z=>some z | none=>y
@[go_sem] theorem Zdz {z y} :ZcL (some z) y=some z:=Eq.trans rfl rfl
@[go_sem] theorem Zdj {y} :ZcL none y=y:=Eq.trans rfl rfl
@[go_sem ↓] theorem Zdh {s u x} :Zj P ⟨d,.convert s u x,t,ps,af,g⟩ fr H k=pst ((ZcL (WJ P H s u (ev fr x)) (KI P s u (ev fr x))).map .p) (Zw (fun v=>k v H) ⟨⟩):=by
 rw [ZA rfl rfl];simp only [Zt,ZO]
 cases WJ P H s u (ev fr x)<;>rfl
@[go_sem ↓] theorem K2 {f cs es} :Zj P ⟨d,.makeFunc f (List.toArray cs) (List.toArray es),t,ps,af,g⟩ fr H k=k (.fn f (cs.map (ev fr)) (es.map (ev fr))) H:=by rw [ZA rfl rfl];rfl
@[go_sem ↓] theorem J9 {s x f} :Zj P ⟨d,.fieldAddr s x f,t,ps,af,g⟩ fr H k=pst (Ym P H s f (ev fr x)) (Zw (fun v=>k v H) ⟨⟩):=by rw [ZA rfl rfl];rfl
@[go_sem ↓] theorem J0 {u x i} :Zj P ⟨d,.indexAddr u x i,t,ps,af,g⟩ fr H k=pst (X6 P H u (evx fr x) (ev fr i)) (Zw (fun v=>k v H) ⟨⟩):=by rw [ZA rfl rfl];rfl
@[go_sem ↓] theorem Zca {u x i} :Zj P ⟨d,.index u x i,t,ps,af,g⟩ fr H k=pst (Jv P u (ev fr x) (ev fr i)) (Zw (fun v=>k v H) ⟨⟩):=by rw [ZA rfl rfl];rfl
@[go_sem ↓] theorem ZbT {u l} :Zj P ⟨d,.build u (List.toArray l),t,ps,af,g⟩ fr H k=pst (VG P H u (l.map fun x=>(x.1,ev fr x.2))) (Zw (fun v=>k v H) ⟨⟩):=by rw [ZA rfl rfl];rfl
@[go_sem ↓] theorem ZeE {x u} :Zj P ⟨d,.call ⟨.builtin .len,#[x],#[u]⟩,t,ps,af,g⟩ fr H k=pst ((Zeg P H u (ev fr x)).map .p) (Zw (fun v=>k v H) ⟨⟩):=by rw [ZA rfl rfl];rfl
@[go_sem ↓] theorem Zcq {u} :Zj P ⟨d,.alloc u,t,ps,af,g⟩ fr H k=mst ((Z4 P u).map fun zs=>(.ptr H.length 0,H++ [.cells (zs.map .p)])) (Zw k ⟨⟩):=by rw [XQ rfl rfl];rfl
@[go_sem ↓] theorem ZeD {u x} :Zj P ⟨d,.box u x,t,ps,af,g⟩ fr H k=mst ((vc H (ev fr x)).map fun cs=>(.ptr H.length 0,H++ [.cells cs])) (Zw k ⟨⟩):=by rw [XQ rfl rfl];rfl
def ZiD (H:List Obj) (n:Option Nat) (a:V) (cs:Option (List V)):Option (List Obj):=n.bind fun n=>cs.bind fun cs=>Wl H n a cs
@[go_sem] theorem Zej {n a cs} :ZiD H (some n) a (some cs)=Wl H n a cs:=Eq.trans rfl rfl
@[go_sem ↓] theorem ZbG {u x y} :Zj P ⟨d,.store u x y,t,ps,af,g⟩ fr H k=hst (ZiD H (tsz P u) (ev fr x) (vc H (ev fr y))) (Zw (k .junk) ⟨⟩):=by
 rw [XQ rfl rfl];simp only [Yr,ZiD]
 cases tsz P u<;>cases vc H (ev fr y)<;>simp [hst,mst,Zw]
 cases Wl H _ (ev fr x) _<;>rfl
@[go_sem ↓] theorem Jh {u n l} :Zj P ⟨d,.buildSlice u n (List.toArray l),t,ps,af,g⟩ fr H k=mst (Yr P (.buildSlice u n (List.toArray l)) fr H) (Zw k ⟨⟩):=by rw [XQ rfl rfl];rfl
@[go_sem ↓] theorem Za3 {x y u u2} :Zj P ⟨d,.call ⟨.builtin .append,#[x,y],#[u,u2]⟩,t,ps,af,g⟩ fr H k=mst (UJ P H u u2 (ev fr x) (ev fr y)) (Zw k ⟨⟩):=by rw [XQ rfl rfl];rfl
@[go_sem ↓] theorem Zdu {f azs ts} :Zj P ⟨d,.call ⟨.value f,List.toArray azs,ts⟩,t,ps,af,g⟩ fr H k=Vv P (ev fr f) (azs.map (ev fr)) H (Zw k ⟨⟩):=Eq.trans rfl rfl
@[go_sem ↓] theorem Zf5 {f fs cs azs} :Vv P (.fn (.func f) fs cs) azs H k=ACalls P f (fs++azs++cs) H k:=Eq.trans rfl rfl
theorem UU {f f' azs as'} (h:f=f') (h2:azs=as'):Vv P f azs H k=Vv P f' as' H k:=by rw [h,h2]
theorem Uj {f azs as' H'} (h2:azs=as') (h3:H=H'):ACalls P f azs H k=ACalls P f as' H' k:=by rw [h2,h3]
theorem UE {x x' A B} (h:x=x'):X3 x A B=X3 x' A B:=by rw [h]
theorem Up {x x' b A B} (h:x=x'):ZI x b A B=ZI x' b A B:=by rw [h]
@[go_sem ↓, go_sem] theorem Zc9 {A:Prop} {t B'} :X3 (.p (.bool true)) (Zw A t) B'=A:=by simp [X3,Zw]
@[go_sem ↓, go_sem] theorem Zcd {B:Prop} {t B'} :X3 (.p (.bool false)) B' (Zw B t)=B:=by simp [X3,Zw]
@[go_sem ↓, go_sem] theorem Zep {A:Prop} {t B} :ZI (.p (.bool true)) true (Zw A t) B=A:=by simp [ZI,Zw]
@[go_sem ↓, go_sem] theorem Zef {B:Prop} {t A} :ZI (.p (.bool true)) false A (Zw B t)=B:=by simp [ZI,Zw]
@[go_sem ↓, go_sem] theorem Zed {B:Prop} {t A} :ZI (.p (.bool false)) true A (Zw B t)=B:=by simp [ZI,Zw]
@[go_sem ↓, go_sem] theorem ZdN {A:Prop} {t B} :ZI (.p (.bool false)) false (Zw A t) B=A:=by simp [ZI,Zw]
@[go_sem ↓, go_sem] theorem ZbK {b} {B:Prop} {t A} :ZI (.tup []) b A (Zw B t)=B:=by simp [ZI,Zw]
theorem ZL {c:Bool} {A B:Prop} {t t'} (h1:c=true->A) (h2:c=false->B):X3 (.p (.bool c)) (Zw A t) (Zw B t'):=⟨h1,h2⟩
theorem ZB {c:Bool} {A B:Prop} {t t'} (h1:c=true->A) (h2:c=false->B):ZI (.p (.bool c)) true (Zw A t) (Zw B t'):=⟨h1,fun h=>h2 (by simpa using h)⟩
theorem ZD {c:Bool} {A B:Prop} {t t'} (h1:c=true->B) (h2:c=false->A):ZI (.p (.bool c)) false (Zw A t) (Zw B t'):=⟨h2,fun h=>h1 (by simpa using h)⟩
class Dc (c:Bool) (p q:outParam Prop):Prop where
 t:c=true->p
 f:c=false->q
instance dcD {p : Prop} [Decidable p] : Dc (decide p) p (¬p) := ⟨of_decide_eq_true, of_decide_eq_false⟩
instance (priority := low) dcB {c : Bool} : Dc c (c = true) (c = false) := ⟨id, id⟩
theorem cD {c:Bool} {A B p q:Prop} {t t'} [d:Dc c p q] (h1:p->A) (h2:q->B):X3 (.p (.bool c)) (Zw A t) (Zw B t'):=ZL (fun h=>h1 (d.t h)) (fun h=>h2 (d.f h))
theorem gT {c:Bool} {A B p q:Prop} {t t'} [d:Dc c p q] (h1:p->A) (h2:q->B):ZI (.p (.bool c)) true (Zw A t) (Zw B t'):=ZB (fun h=>h1 (d.t h)) (fun h=>h2 (d.f h))
theorem gF {c:Bool} {A B p q:Prop} {t t'} [d:Dc c p q] (h1:p->B) (h2:q->A):ZI (.p (.bool c)) false (Zw A t) (Zw B t'):=ZD (fun h=>h1 (d.t h)) (fun h=>h2 (d.f h))
@[go_sem] theorem Zip {p:Prop} [Decidable p]:(!decide p)=decide (¬p):=by simp
end ops
attribute [congr] Q8 UM UU Uj UE Up
section vals
variable {P : Program} {H : List Obj} {k : IntKind} {t u : TypeId}
@[go_sem] theorem Zhn {a b} :X5 P .add t (.p (.int k a)) (.p (.int k b))=some (.int k (k.wrap (a+b))):=by simp [X5,Uh]
@[go_sem] theorem ZfN {a b} :X5 P .sub t (.p (.int k a)) (.p (.int k b))=some (.int k (k.wrap (a-b))):=by simp [X5,Uh]
@[go_sem] theorem Zg4 {a b} (h:b≠0):X5 P .quo t (.p (.int k a)) (.p (.int k b))=some (.int k (k.wrap (a.tdiv b))):=by simp [X5,Uh,h]
@[go_sem] theorem Zgw {a b} (h:b≠0):X5 P .rem t (.p (.int k a)) (.p (.int k b))=some (.int k (a.tmod b)):=by simp [X5,Uh,h]
@[go_sem] theorem ZcN {a b} :X5 P .or t (.p (.int k a)) (.p (.int k b))=some (.int k (k.wrap ((BitVec.ofInt k.bits a|||BitVec.ofInt k.bits b).toNat:Int))):=by simp [X5,Uh]
@[go_sem] theorem Zhr {a b} :X5 P .eql t (.p (.int k a)) (.p (.int k b))=some (.bool (decide (a=b))):=by simp [X5,Uh]
@[go_sem] theorem Zg8 {a b} :X5 P .neq t (.p (.int k a)) (.p (.int k b))=some (.bool (decide (¬a=b))):=by simp [X5,Uh]
@[go_sem] theorem Zhe {a b} :X5 P .lss t (.p (.int k a)) (.p (.int k b))=some (.bool (decide (a<b))):=by simp [X5,Uh]
@[go_sem] theorem ZgO {a b} :X5 P .leq t (.p (.int k a)) (.p (.int k b))=some (.bool (decide (a<=b))):=by simp [X5,Uh]
@[go_sem] theorem Zhk {a b} :X5 P .gtr t (.p (.int k a)) (.p (.int k b))=some (.bool (decide (b<a))):=by simp [X5,Uh]
@[go_sem] theorem ZhA {a b} :X5 P .geq t (.p (.int k a)) (.p (.int k b))=some (.bool (decide (b<=a))):=by simp [X5,Uh]
@[go_sem] theorem Za1 {a b k'} (h:0<=b):X5 P .shl t (.p (.int k a)) (.p (.int k' b))=some (.int k (k.wrap (a*2^(min b.toNat k.bits)))):=by simp [X5,Uh,show ¬b<0 by omega]
@[go_sem] theorem Zg3 {op a b} :X5 P op t (.p (.str a)) (.p (.str b))=Zab op a b:=Eq.trans rfl rfl
@[go_sem] theorem Zhf {a b} :Zab .eql a b=some (.bool (decide (a=b))):=Eq.trans rfl rfl
@[go_sem] theorem ZgD {a b} :Zab .neq a b=some (.bool (decide (¬a=b))):=by simp [Zab]
@[go_sem] theorem Zao {a b} (h:a.length+b.length<=9223372036854775807):Zab .add a b=some (.str (a++b)):=by simp [Zab,h]
def ZlO (op:BinOp) (u:Option TypeDesc) (a b:Bool):Option PV:=match op,u with
  | .eql,some .bool=>some (.bool (a==b))
  | .neq,some .bool=>some (.bool (!(a==b)))
  | _,_=>none
end vals
attribute [irreducible] pst mst hst bst
end Go.AM
namespace Go.AM
open Go.RowKit
section vals
variable {P : Program} {H : List Obj} {k : IntKind} {t u : TypeId}
def ZjW (g:Bool) (op:BinOp) (r:Option Bool):Option PV:=if g then none else match op with
 | .eql=>r.map .bool
 | .neq=>r.map fun r=> .bool (!r)
 | _=>none
@[go_sem] theorem ZfX {op a b} :X5 P op t (.p (.agg a)) (.p (.agg b))=ZjW (P.eqGuardType P.depth t) op (WS P 9 t (.agg a) (.agg b)):=Eq.trans rfl rfl
@[go_sem] theorem Zha {b} :ZjW false .eql (some b)=some (.bool b):=Eq.trans rfl rfl
def Za9 (P:Program) (d:Nat) (t:TypeId) (D:Option TypeDesc) (x y:PV):Option Bool:=match D,x,y with
  | some .bool,.bool a,.bool b=>some (a==b)
  | some (.int _),.int k a,.int k' b=>if k=k' then some (decide (a=b)) else none
  | some .string,.str a,.str b=>some (decide (a=b))
  | some (.struct fs),.agg a,.agg b=>if P.stoodInHeld t then none else QC (WS P d) P fs.toList a b
  | some (.array n e),.agg a,.agg b=>match tsz P e with | some m=>Zc0 (WS P d e) P e m n 0 a b | none=>none
  | _,_,_=>none
@[go_sem] theorem ZeV {d x y} :WS P (d+1) t x y=Za9 P d t (P.underlying t) x y:=Eq.trans rfl rfl
@[go_sem] theorem Zfa {d a b} :Za9 P d t (some .bool) (.bool a) (.bool b)=some (a==b):=Eq.trans rfl rfl
@[go_sem] theorem Zhz {d k0 a b} :Za9 P d t (some (.int k0)) (.int k a) (.int k b)=some (decide (a=b)):=by simp [Za9]
theorem Wa {d fs a b} (h:P.stoodInHeld t=false):Za9 P d t (some (.struct fs)) (.agg a) (.agg b)=QC (WS P d) P fs.toList a b:=by simp [Za9,h]
def ZcP (x y:Option Bool):Option Bool:=x.bind fun p=>y.map fun q=>p&&q
@[go_sem] theorem Zfw {p q} :ZcP (some p) (some q)=some (p&&q):=Eq.trans rfl rfl
def eqP (f:PV->PV->Option Bool) (x y:Option PV):Option Bool:=x.bind fun x=>y.bind fun y=>f x y
@[go_sem] theorem Zht {f x y} :eqP f (some x) (some y)=f x y:=Eq.trans rfl rfl
@[go_sem] theorem Qo {f a b} :QC f P [] a b=some true:=Eq.trans rfl rfl
@[go_sem] theorem Uc {f fi r a b} : QC f P (fi :: r) a b = if fi.name = "_" then QC f P r a b else ZcP (eqP (f fi.type) (apart P fi.type a fi.offset) (apart P fi.type b fi.offset)) (QC f P r a b) := by
 simp only [QC]
 split
 ·rfl
 ·cases apart P fi.type a fi.offset<;>cases apart P fi.type b fi.offset<;>simp [eqP,ZcP]
  rename_i x y
  cases f fi.type x y<;>cases QC f P r a b<;>rfl
def ZjY (g:Option Bool) (s:Option Nat) (cs:List PV) (off:Nat):Option PV:=match g,s with
 | some true,some n=>if off+n<=cs.length then some (.agg ((cs.drop off).take n)) else none
 | some false,_=>cs[off]?
 | _,_=>none
@[go_sem] theorem ZfZ {cs off} :apart P t cs off=ZjY (Xv P t) (tsz P t) cs off:=Eq.trans rfl rfl
@[go_sem] theorem Zho {s cs off} :ZjY (some false) s cs off=cs[off]? :=Eq.trans rfl rfl
def Qq (g:Option Bool) (s:Option Nat) (H:List Obj) (x:V):Option V:=match g,s with
 | some true,some n=>(XI H x n).map mkA
 | some false,_=>match XI H x 1 with
  | some (c::_)=>some c
  | _=>none
 | _,_=>none
def hdO (x:Option (List V)):Option V:=match x with | some (c::_)=>some c | _=>none
@[go_sem] theorem ZhL {c l} :hdO (some (c::l))=some c:=Eq.trans rfl rfl
@[go_sem] theorem ZgA {x} :Wh P H t x=Qq (Xv P t) (tsz P t) H x:=Eq.trans rfl rfl
@[go_sem] theorem ZdD {s x} :Qq (some false) s H x=hdO (XI H x 1):=by simp only [Qq,hdO]
@[go_sem] theorem Zdr {n x} :Qq (some true) (some n) H x=(XI H x n).map mkA:=Eq.trans rfl rfl
@[go_sem] theorem ZeN {x j n} :XI H (.lp x j) n=if j+n<=x.cells.length then some (((x.cells.drop j).take n).map .p) else none:=Eq.trans rfl rfl
def Zba (ob:Obj) (off n:Nat):Option (List V):=match ob with | .cells cs=>if off+n<=cs.length then some ((cs.drop off).take n) else none | _=>none
@[go_sem] theorem Zc4 {o off n} :XI H (.ptr o off) n=Zba (oat H o) off n:=Eq.trans rfl rfl
@[go_sem] theorem Zbt {cs off n} :Zba (.cells cs) off n=if off+n<=cs.length then some ((cs.drop off).take n) else none:=Eq.trans rfl rfl
def Zbu (ob:Obj) (i j tot n:Nat):Option (List V):=match ob with
 | .elems _ xs=>if xs.length=tot/\i<xs.length/\j+n<=(elt xs i).cells.length then some ((((elt xs i).cells.drop j).take n).map .p) else none
 | _=>none
@[go_sem] theorem Zfo {o i j tot n} :XI H (.ep o i j tot) n=Zbu (oat H o) i j tot n:=Eq.trans rfl rfl
@[go_sem] theorem Za8 {S xs i j tot n} :Zbu (.elems S xs) i j tot n=if xs.length=tot/\i<xs.length/\j+n<=(elt xs i).cells.length then some ((((elt xs i).cells.drop j).take n).map .p) else none:=Eq.trans rfl rfl
@[go_sem] theorem ZdZ {cs} :(PV.agg cs).cells=cs:=Eq.trans rfl rfl
@[go_sem] theorem Zez {n} :(PV.int k n).cells= [.int k n]:=Eq.trans rfl rfl
@[go_sem] theorem ZeF {s} :(PV.str s).cells= [.str s]:=Eq.trans rfl rfl
@[go_sem] theorem Zjs {n} :(PV.int k n).one=true:=Eq.trans rfl rfl
@[go_sem] theorem ZgY {b} :(PV.bool b).one=true:=Eq.trans rfl rfl
@[go_sem] theorem ZiJ {s} :(PV.str s).one=true:=Eq.trans rfl rfl
@[go_sem] theorem ZfM {c xs} :(PV.list c xs).one=true:=Eq.trans rfl rfl
@[go_sem] theorem Zkv {cs} :mkA cs=match Vn cs with | some ps=> .p (.agg ps) | none=> .agg cs:=Eq.trans rfl rfl
@[go_sem] theorem ZfT : Vn []=some []:=Eq.trans rfl rfl
@[go_sem] theorem ZeM {x r} :Vn (.p x::r)=(Vn r).map (x:: ·):=by simp only [Vn]
def Vm (n:Option Nat) (a:Bool) (x:V):Option V:=match n with | some n=>if a then some (VY n x) else none | none=>none
@[go_sem] theorem Zff {s f x} :Ym P H s f x=Vm (Z6 P s f) (Xh H x) x:=Eq.trans rfl rfl
@[go_sem] theorem ZbB {n x} :Vm (some n) true x=some (VY n x):=Eq.trans rfl rfl
@[go_sem] theorem ZgB {n x j} :VY n (.lp x j)= .lp x (j+n):=Eq.trans rfl rfl
@[go_sem] theorem Zd9 {n o off} :VY n (.ptr o off)= .ptr o (off+n):=Eq.trans rfl rfl
def Kv (ob:Obj):Bool:=match ob with | .cells _=>true | _=>false
@[go_sem] theorem K8 {cs} :Kv (.cells cs)=true:=Eq.trans rfl rfl
def ZeY (ob:Obj) (tot:Nat):Bool:=match ob with | .elems _ xs=>decide (xs.length=tot) | .cells _=>true | _=>false
@[go_sem] theorem ZbR {S xs tot} :ZeY (.elems S xs) tot=decide (xs.length=tot):=Eq.trans rfl rfl
@[go_sem] theorem Zhp {x j} :Xh H (.lp x j)=true:=Eq.trans rfl rfl
@[go_sem] theorem Zdf {o off} :Xh H (.ptr o off)=Kv (oat H o):=Eq.trans rfl rfl
def Yd (e:Option (Option Nat×Nat)) (H:List Obj) (x i:V):Option V:=match e,i with
 | some (none,S),.p (.int _ n)=>match x with
  | .p (.list _ xs)=>if 0<=n/\n<xs.length then (if (elt xs n.toNat).cells.length=S then some (.lp (elt xs n.toNat) 0) else none) else none
  | .sl o off len tot=>match oat H o with
   | .elems S' xs=>if xs.length=tot/\S'=S then (if 0<=n/\n<len then some (.ep o (off+n.toNat) 0 tot) else none) else none
   | .cells _=>if S=1/\off=0/\len=tot/\0<=n/\n<len then some (.ptr o n.toNat) else none
   | _=>none
  | _=>none
 | some (some k,S),.p (.int _ n)=>if 0<=n/\n<k then (if Xh H x then some (VY (n.toNat*S) x) else none) else none
 | _,_=>none
@[go_sem] theorem Zfx {x i} :X6 P H t x i=Yd (Y7 P t) H x i:=Eq.trans rfl rfl
theorem VP {S c xs n} (h0:0<=n) (h1:n<(List.length xs:Int)):Yd (some (none,S)) H (.p (.list c xs)) (.p (.int k n))=if (elt xs n.toNat).cells.length=S then some (.lp (elt xs n.toNat) 0) else none:=by
 simp only [Yd];rw [if_pos ⟨h0,h1⟩]
def nth {α:Type} [Inhabited α] (l:List α) (i:Nat):α:=l.getD i default
theorem JD {α:Type} [Inhabited α] {f:α->PV} {l:List α} {i:Nat} (h:i<l.length):elt (l.map f) i=f (nth l i):=by
 simp [elt,nth,h]
theorem Zn {α:Type} [Inhabited α] {l:List α} {i:Nat} (h:i<l.length):nth l i=l[i]:=by simp [nth,h]
@[go_sem] theorem ZbM {α:Type} [Inhabited α] {f:α->PV} {l:List α} {S c n} (h0:0<=n) (h1:n<(l.length:Int)) :
  Yd (some (none,S)) H (.p (.list c (l.map f))) (.p (.int k n))=if (f (nth l n.toNat)).cells.length=S then some (.lp (f (nth l n.toNat)) 0) else none:=by
 rw [VP h0 (by simpa using h1),JD (by omega)]
def JY (ob:Obj) (S o off len tot:Nat) (n:Int):Option V:=match ob with
 | .elems S' xs=>if xs.length=tot/\S'=S then (if 0<=n/\n<len then some (.ep o (off+n.toNat) 0 tot) else none) else none
 | .cells _=>if S=1/\off=0/\len=tot/\0<=n/\n<len then some (.ptr o n.toNat) else none
 | _=>none
@[go_sem] theorem Zdc {S o off len tot n} :Yd (some (none,S)) H (.sl o off len tot) (.p (.int k n))=JY (oat H o) S o off len tot n:=Eq.trans rfl rfl
@[go_sem] theorem ZfF {S xs o off} {len tot:Nat} {n:Int} (h0:0<=n) (h1:n<(len:Int)) (ht:xs.length=tot):JY (.elems S xs) S o off len tot n=some (.ep o (off+n.toNat) 0 tot):=by
 simp only [JY];simp [ht,h0,h1]
@[go_sem] theorem Zb1 {n} {m S:Nat} {x} (h0:0<=n) (h1:n<(m:Int)):Yd (some (some m,S)) H x (.p (.int k n))=Vm (some (n.toNat*S)) (Xh H x) x:=by
 simp only [Yd,Vm];rw [if_pos ⟨h0,h1⟩]
def Zaj (H:List Obj) (D:Option TypeDesc) (x:V):Option PV:=match D,x with
 | some (.slice _),.p (.list _ xs)=>some (.int .i64 xs.length)
 | some (.slice _),.sl o _ len tot=>match oat H o with
  | .elems _ xs=>if xs.length=tot then some (.int .i64 len) else none
  | _=>none
 | some .string,.p (.str s)=>some (.int .i64 s.length)
 | some (.array n _),_=>some (.int .i64 n)
 | _,_=>none
@[go_sem] theorem ZhS {x} :Zeg P H t x=Zaj H (P.underlying t) x:=Eq.trans rfl rfl
@[go_sem] theorem Zde {e c xs} :Zaj H (some (.slice e)) (.p (.list c xs))=some (.int .i64 (List.length xs)):=Eq.trans rfl rfl
def Zj5 (ob:Obj) (len tot:Nat):Option PV:=match ob with | .elems _ xs=>if xs.length=tot then some (.int .i64 len) else none | _=>none
@[go_sem] theorem Zgl {e o off len tot} :Zaj H (some (.slice e)) (.sl o off len tot)=Zj5 (oat H o) len tot:=Eq.trans rfl rfl
@[go_sem] theorem ZcW {S xs len tot} :Zj5 (.elems S xs) len tot=if xs.length=tot then some (.int .i64 len) else none:=Eq.trans rfl rfl
@[go_sem] theorem Zfu {s} :Zaj H (some .string) (.p (.str s))=some (.int .i64 (List.length s)):=Eq.trans rfl rfl
@[go_sem] theorem ZiM {b} :aun .not (.p (.bool b))=some (.bool (!b)):=Eq.trans rfl rfl
@[go_sem] theorem Zib {n} :aun .neg (.p (.int k n))=some (.int k (k.wrap (0-n))):=Eq.trans rfl rfl
def Zbc (D E:Option TypeDesc) (x:V):Option PV:=match D,E,x with
 | some _,some (.int k),.p (.int _ n)=>some (.int k (k.wrap n))
 | some (.int _),some .string,.p (.int _ n)=>if 0<=n/\n<128 then some (.str [UInt8.ofNat n.toNat]) else none
 | some .string,some .string,.p (.str b)=>some (.str b)
 | _,_,_=>none
@[go_sem] theorem Zgk {s x} :KI P s t x=Zbc (P.underlying s) (P.underlying t) x:=Eq.trans rfl rfl
@[go_sem] theorem ZcX {D k' n} :Zbc (some D) (some (.int k)) (.p (.int k' n))=some (.int k (k.wrap n)):=by cases D<;>rfl
def U0 (E:Option TypeDesc) (H:List Obj) (x:V):Option PV:=match E,x with
  | some (.int .u8),.p (.list _ xs)=>(ZN xs).map .str
  | some (.int .u8),.sl o off len tot=>match oat H o with
   | .elems _ xs=>if xs.length=tot/\off+len<=tot then (ZN ((xs.take (off+len)).drop off)).map .str else none
   | _=>none
  | _,_=>none
def UP (P:Program) (H:List Obj) (D E:Option TypeDesc) (x:V):Option PV:=match D,E with
 | some (.slice e),some .string=>U0 (P.underlying e) H x
 | _,_=>none
@[go_sem] theorem Zfm {s x} :WJ P H s t x=UP P H (P.underlying s) (P.underlying t) x:=Eq.trans rfl rfl
@[go_sem] theorem ZcH {E x} :UP P H (some (.int k)) E x=none:=Eq.trans rfl rfl
@[go_sem] theorem ZaA {e x} :UP P H (some (.slice e)) (some .string) x=U0 (P.underlying e) H x:=Eq.trans rfl rfl
def Zbi (ob:Obj) (off len tot:Nat):Option PV:=match ob with | .elems _ xs=>if xs.length=tot/\off+len<=tot then (ZN ((xs.take (off+len)).drop off)).map .str else none | _=>none
@[go_sem] theorem Zc2 {o off len tot} :U0 (some (.int .u8)) H (.sl o off len tot)=Zbi (oat H o) off len tot:=Eq.trans rfl rfl
@[go_sem] theorem Zbl {S xs off len tot} :Zbi (.elems S xs) off len tot=if xs.length=tot/\off+len<=tot then (ZN ((xs.take (off+len)).drop off)).map .str else none:=Eq.trans rfl rfl
@[go_sem] theorem Zcy : ZN []=some []:=Eq.trans rfl rfl
@[go_sem] theorem Zbz {n r} :ZN (.int .u8 n::r)=(ZN r).map (UInt8.ofNat n.toNat:: ·):=by simp [ZN]
@[go_sem] theorem ZhU {a b:Int} (h:0<=a):a.tdiv b=a / b:=Int.tdiv_eq_ediv_of_nonneg h
@[go_sem] theorem Zi2 {a b:Int} (h:0<=a):a.tmod b=a%b:=Int.tmod_eq_emod_of_nonneg h
@[go_sem] theorem ZkH {cs} :vc H (.p (.agg cs))=if cs.all (·.one)=true then some (cs.map .p) else none:=by simp only [vc]
@[go_sem] theorem ZjH {n} :vc H (.p (.int k n))=some [.p (.int k n)]:=Eq.trans rfl rfl
@[go_sem] theorem Zi4 {n} :vc H (.p (.bool n))=some [.p (.bool n)]:=Eq.trans rfl rfl
@[go_sem] theorem Zkr {n} :vc H (.p (.str n))=some [.p (.str n)]:=Eq.trans rfl rfl
@[go_sem] theorem Zk1 {o off len tot} :vc H (.sl o off len tot)=if ZeY (oat H o) tot=true then some [.sl o off len tot] else none:=Eq.trans rfl rfl
@[go_sem] theorem KC {α:Type} {n} {cs:List α} :spl ([]:List α) n cs= []:=by cases cs<;>cases n<;>simp [spl]
@[go_sem] theorem Zgv {α:Type} {x c:α} {l cs} :spl (x::l) 0 (c::cs)=c::spl l 0 cs:=by simp [spl]
@[go_sem] theorem ZdP {α:Type} {x:α} {l} :spl (x::l) 0 []=x::l:=by simp [spl]
@[go_sem] theorem ZgU {α:Type} {x:α} {l cs n} :spl (x::l) (n+1) cs=x::spl l n cs:=by simp [spl]
def Zbo (H:List Obj) (o:Nat) (ob:Obj) (off n:Nat) (cs:List V):Option (List Obj):=match ob with
 | .cells old=>if off+n<=old.length then some (ost H o (.cells (spl old off cs))) else none
 | _=>none
@[go_sem] theorem Zds {n o off cs} :Wl H n (.ptr o off) cs=if cs.length=n then Zbo H o (oat H o) off n cs else none:=Eq.trans rfl rfl
@[go_sem] theorem Zbw {o old off n cs} :Zbo H o (.cells old) off n cs=if off+n<=old.length then some (ost H o (.cells (spl old off cs))) else none:=Eq.trans rfl rfl
@[go_sem] theorem Ze5 {l} :VG P H t l=match Z4 P t,tpl P t with
 | some zs,some pl=>(Ws H pl (zs.map .p) l).map mkA
 | _,_=>none:=Eq.trans rfl rfl
@[go_sem] theorem Zd1 {pl cs} :Ws H pl cs []=some cs:=by simp [Ws]
def Zbv (H:List Obj) (pl:Nat->Option (Nat×Nat)) (cs:List V) (r:List (Nat×V)) (q:Option (Nat×Nat)) (vs:Option (List V)):Option (List V):=match q,vs with
 | some (off,sz),some vs=>if vs.length=sz/\off+sz<=cs.length then Ws H pl (spl cs off vs) r else none
 | _,_=>none
@[go_sem] theorem Zdg {pl cs i v r} :Ws H pl cs ((i,v)::r)=Zbv H pl cs r (pl i) (vc H v):=Eq.trans rfl rfl
@[go_sem] theorem ZbX {pl cs off sz vs r} :Zbv H pl cs r (some (off,sz)) (some vs)=if vs.length=sz/\off+sz<=cs.length then Ws H pl (spl cs off vs) r else none:=Eq.trans rfl rfl
@[go_sem] theorem Zku {l i} :plL l i=l[i]? :=Eq.trans rfl rfl
end vals
end Go.AM
namespace Go.AM
open Go.RowKit
section
variable {P : Program} {H : List Obj} {k : IntKind} {t u : TypeId} {fr : List V}
def ZcG (S:Option Nat) (H:List Obj) (n:Nat) (l:List (Nat×V)):Option (V×List Obj):=match S with
 | some S=>if n=l.length/\n*S<=16777216/\0<S then (Vx H S 0 l).map fun xs=>(.sl H.length 0 n n,H++ [.elems S xs]) else none
 | none=>none
@[go_sem] theorem ZgW {n l} :Yr P (.buildSlice t n (List.toArray l)) fr H=ZcG (U7 P t) H n (l.map fun x=>(x.1,ev fr x.2)):=by
 simp only [Yr,U7,ZcG]
 cases P.underlying t with
 | none=>rfl
 | some D =>
  cases D<;>try rfl
  rename_i e;simp only []
  cases (P.info? e).bind (·.zero) with
  | none=>rfl
  | some z =>
   simp only [ZcR]
   cases Y7 P t with
   | none=>rfl
   | some q=>obtain ⟨a,b⟩:=q;cases a<;>rfl
@[go_sem] theorem Zc1 {S n l} :ZcG (some S) H n l=if n=l.length/\n*S<=16777216/\0<S then (Vx H S 0 l).map fun xs=>(.sl H.length 0 n n,H++ [.elems S xs]) else none:=Eq.trans rfl rfl
@[go_sem] theorem ZfP {S n} :Vx H S n []=some []:=by simp [Vx]
@[go_sem] theorem Ze6 {S n i x r} :Vx H S n ((i,.p x)::r)=if i=n then if x.cells.length=S/\x.cells.all (·.one)=true then (Vx H S (n+1) r).map (x:: ·) else none else none:=by simp only [Vx,pvo]
def Za4 (P:Program) (t:TypeId):Option (Nat×Nat):=match P.underlying t with
 | some (.slice e)=>match tsz P e,Wz P e,(P.info? e).map (·.bytes) with
  | some S,some z,some by'=>if 0<S/\z.cells.length=S/\z.cells.all (·.one)=true/\by'≠0 then some (S,by') else none
  | _,_,_=>none
 | _=>none
theorem ZaM {S by'} (h:Za4 P t=some (S,by')): ∃e z,P.underlying t=some (.slice e)/\tsz P e=some S/\Wz P e=some z/\(P.info? e).map (·.bytes)=some by'/\0<S/\z.cells.length=S/\z.cells.all (·.one)=true/\by'≠0:=by
 unfold Za4 at h
 split at h
 ·rename_i e hu
  split at h
  ·rename_i S' z b h1 h2 h3
   split at h
   ·rename_i hc;simp at h;obtain ⟨rfl,rfl⟩:=h;exact ⟨e,z,hu,h1,h2,h3,hc⟩
   ·cases h
  ·cases h
 ·cases h
def Vg (D:Option TypeDesc) (H:List Obj) (y:V):Option (List PV):=match D,y with
 | some (.slice _),.p (.list _ ys)=>some ys
 | some (.slice _),.sl o off len tot=>match oat H o with
  | .elems _ xs=>if xs.length=tot/\off+len<=tot then some ((xs.take (off+len)).drop off) else none
  | _=>none
 | some .string,.p (.str s)=>some (s.map fun b=> .int .u8 b.toNat)
 | _,_=>none
def Zek (ob:Obj) (off len tot:Nat):Option (List PV):=match ob with | .elems _ xs=>if xs.length=tot/\off+len<=tot then some ((xs.take (off+len)).drop off) else none | _=>none
@[go_sem] theorem Zdp {e c ys} :Vg (some (.slice e)) H (.p (.list c ys))=some ys:=Eq.trans rfl rfl
@[go_sem] theorem ZgZ {e o off len tot} :Vg (some (.slice e)) H (.sl o off len tot)=Zek (oat H o) off len tot:=Eq.trans rfl rfl
theorem Qw {S xs n} (h:List.length xs=n):Zek (.elems S xs) 0 n n=some xs:=by subst h;simp [Zek]
def UZ (H:List Obj) (F:Option (Nat×Nat)) (ob:Obj) (o n:Nat) (ys:Option (List PV)):Option (V×List Obj):=match F,ob,ys with
 | some (S,by'),.elems S' xs,some ys=>if S'=S/\xs.length=n/\okE S ys=true/\(n+ys.length)*by'<=140737488355328/\n+ys.length<=140737488355328 then
   some (.sl o 0 (n+ys.length) (n+ys.length),ost H o (.elems S (xs++ys))) else none
 | _,_,_=>none
theorem Zcf {z x y ys e S by'} (h1:P.underlying t=some (.slice e)) (h2:tsz P e=some S) (h3:Wz P e=some z) (h4:(P.info? e).map (·.bytes)=some by') (h5:Zc3 P H u y=some ys) (h6:0<S/\z.cells.length=S/\z.cells.all (·.one)=true/\by'≠0) :
  UJ P H t u x y=if okE S ys=true then (match x with
    | .p (.list cl xs)=>if cl=true/\okE S xs=true/\(xs= []\/0<ys.length)/\(xs.length+ys.length)*by'<=140737488355328/\xs.length+ys.length<=140737488355328 then
      some (.sl H.length 0 (xs.length+ys.length) (xs.length+ys.length),H++ [.elems S (xs++ys)]) else none
    | .sl o off len tot=>match oat H o with
     | .elems S' xs=>if S'=S/\off=0/\len=tot/\xs.length=tot/\(tot+ys.length)*by'<=140737488355328/\tot+ys.length<=140737488355328 then
       some (.sl o 0 (tot+ys.length) (tot+ys.length),ost H o (.elems S (xs++ys))) else none
     | _=>none
    | _=>none) else none:=by
 simp only [UJ,h1,h2,h3,h4,h5]
 by_cases hc:okE S ys=true
 ·rw [if_pos hc,if_pos ⟨h6.1,h6.2.1,h6.2.2.1,h6.2.2.2,hc⟩]
  cases x with
  | p x=>cases x<;>rfl
  | _=>rfl
 ·rw [if_neg hc,if_neg (fun h=>hc h.2.2.2.2)]
theorem Yn {y F o n} (hF:Za4 P t=some F):UJ P H t u (.sl o 0 n n) y=UZ H (some F) (oat H o) o n (Vg (P.underlying u) H y):=by
 obtain ⟨S,by'⟩:=F;obtain ⟨e,z,h1,h2,h3,h4,h6⟩:=ZaM hF;have e1:Vg (P.underlying u) H y=Zc3 P H u y:=Eq.trans rfl rfl;rw [e1]
 cases h5:Zc3 P H u y with
 | none =>
  simp only [UJ,h1,h2,h3,h4,h5,UZ]
  cases oat H o<;>rfl
 | some ys =>
  rw [Zcf h1 h2 h3 h4 h5 h6];simp only [UZ]
  cases oat H o with
  | elems S' xs =>
   by_cases hc:okE S ys=true
   ·simp [hc]
   ·simp [hc]
  | cells cs=>simp
  | map es=>simp
  | bld T E r bs=>simp
  | dead=>simp
theorem VL {S b xs ys o n} (hn:xs.length=n) (hb:(n+ys.length)*b<=140737488355328) (hb2:n+ys.length<=140737488355328):UZ H (some (S,b)) (.elems S xs) o n (some ys)=if okE S ys=true then some (.sl o 0 (n+ys.length) (n+ys.length),ost H o (.elems S (xs++ys))) else none:=by
 simp only [UZ]
 by_cases hc:okE S ys=true
 ·rw [if_pos ⟨trivial,hn,hc,hb,hb2⟩,if_pos hc]
 ·rw [if_neg (fun h=>hc h.2.2.1),if_neg hc]
@[go_sem] theorem Zga {α:Type} {S} {f:α->PV} {l:List α} :Zek (.elems S (l.map f)) 0 l.length l.length=some (l.map f):=Qw (by simp)
@[go_sem] theorem Zgb {S x} :Zek (.elems S [x]) 0 1 1=some [x]:=Qw (by simp)
@[go_sem] theorem Ze7 {α:Type} {S b o x} {f:α->PV} {l:List α} (hb:(l.length+1)*b<=140737488355328) (hb2:l.length+1<=140737488355328):UZ H (some (S,b)) (.elems S (l.map f)) o l.length (some [x])=if okE S [x]=true then some (.sl o 0 (l.length+1) (l.length+1),ost H o (.elems S (l.map f++ [x]))) else none :=
 VL (by simp) (by simpa using hb) (by simpa using hb2)
@[go_sem] theorem Zfi {α β:Type} {S b o} {f:α->PV} {g:β->PV} {l:List α} {m:List β} (hb:(l.length+m.length)*b<=140737488355328) (hb2:l.length+m.length<=140737488355328):UZ H (some (S,b)) (.elems S (l.map f)) o l.length (some (m.map g))=if okE S (m.map g)=true then some (.sl o 0 (l.length+m.length) (l.length+m.length),ost H o (.elems S (l.map f++m.map g))) else none:=by
 have:= @VL H S b (l.map f) (m.map g) o l.length (by simp) (by simpa using hb) (by simpa using hb2);simpa using this
@[go_sem] theorem ZiU {S} :okE S []=true:=Eq.trans rfl rfl
@[go_sem] theorem Zgu {S x l} :okE S (x::l)=((x.cells.length==S)&&x.cells.all (·.one)&&okE S l):=by simp [okE,ZgC]
theorem Zcn {α:Type} {S} {f:α->PV} {l:List α} (h: ∀x,ZgC S (f x)=true):okE S (l.map f)=true:=by simp [okE];intro x _;exact h x
end
def Xi : Nat->List Nat->List V->List V
 | _,_,[]=> []
 | i,[],_::l=> .junk::Xi (i+1) [] l
 | i,k::ks,x::l=>if i=k then x::Xi (i+1) ks l else .junk::Xi (i+1) (k::ks) l
def Ut : List (Nat×V)->List V->List V
 | [],fr=>fr
 | (i,v)::r,fr=>Ut r (pt fr i v)
@[go_sem] theorem Zfc {i ks} :Xi i ks []= []:=by cases ks<;>simp [Xi]
@[go_sem] theorem ZdB {i x l} :Xi i [] (x::l)= .junk::Xi (i+1) [] l:=by simp [Xi]
@[go_sem] theorem Zdw {i k ks x l} :Xi i (k::ks) (x::l)=if i=k then x::Xi (i+1) ks l else .junk::Xi (i+1) (k::ks) l:=by simp [Xi]
@[go_sem] theorem Zlr : ((0:Nat):Int)=0:=Eq.trans rfl rfl
@[go_sem] theorem Zk6 {n:Nat} :((n+1:Nat):Int)=(n:Int)+1:=Eq.trans rfl rfl
@[go_sem] theorem ZjZ {n:Nat} :((n:Int)).toNat=n:=Eq.trans rfl rfl
@[go_sem] theorem Zhd {fr} :Ut [] fr=fr:=by simp [Ut]
@[go_sem] theorem ZdR {i v r fr} :Ut ((i,v)::r) fr=Ut r (pt fr i v):=by simp [Ut]
@[go_sem] theorem ZjB {p q:Prop} [Decidable p] [Decidable q]:(decide p&&decide q)=decide (p/\q):=by simp
@[go_sem] theorem ZeQ {p q:Prop} [Decidable p] [Decidable q]:(decide p||decide q)=decide (p\/q):=by simp
theorem Zs {P c fr H Q} {I:Type} (ks:List Nat) (sets:I->List (Nat×V)) (hs:I->List Obj) (R:I->Prop) (μ:I->Nat) (i0:I) (hR:R i0) (h0:Weak H.length fr H (Ut (sets i0) (Xi 0 ks fr)) (hs i0))
  (round: ∀i,R i->awp [] P c (Ut (sets i) (Xi 0 ks fr)) (hs i) (YI (fun fr' H'=> ∃i',R i'/\μ i'<μ i/\Weak H.length fr' H' (Ut (sets i') (Xi 0 ks fr)) (hs i')) Q)):AWP P (.loop c) fr H Q :=
 Qc R (fun i=>Ut (sets i) (Xi 0 ks fr)) hs μ i0 hR h0 fun i hi=>Za [] _ _ _ _ (round i hi)
theorem Y5 {P c fr H Q} (cuts:List Nat) {I:Type} (ks:List Nat) (sets:I->List (Nat×V)) (hs:I->List Obj) (R:I->Prop) (μ:I->Nat) (i0:I) (hR:R i0) (h0:Weak H.length fr H (Ut (sets i0) (Xi 0 ks fr)) (hs i0))
  (round: ∀i,R i->awp cuts P c (Ut (sets i) (Xi 0 ks fr)) (hs i) (YI (fun fr' H'=> ∃i',R i'/\μ i'<μ i/\Weak H.length fr' H' (Ut (sets i') (Xi 0 ks fr)) (hs i')) Q)):AWP P (.loop c) fr H Q :=
 Qc R (fun i=>Ut (sets i) (Xi 0 ks fr)) hs μ i0 hR h0 fun i hi=>Za cuts _ _ _ _ (round i hi)
theorem Zh {P x y fr H Q} {I:Type} (ks:List Nat) (sets:I->List (Nat×V)) (hs:I->List Obj) (R:I->Prop)
  (h:awp [] P x fr H (YI (fun fr' H'=> ∃i,R i/\Weak H.length fr' H' (Ut (sets i) (Xi 0 ks fr)) (hs i)) Q)) (k: ∀i,R i->AWP P y (Ut (sets i) (Xi 0 ks fr)) (hs i) Q):AWP P (.seq x y) fr H Q :=
 fun F ι a w hr hf=>by
 refine wp_seq (wp_mono (Za [] _ _ _ _ h F ι a w hr hf) ?_);rintro e a' w' ⟨fr',H',ι',q,g,f⟩
 cases e with
 | normal =>
  obtain ⟨i,hi,hw⟩:=q;obtain ⟨ι2,r2,f2,g2⟩:=hw F ι' a' w' g.rel f;refine wp_mono (k i hi F ι2 a' w' r2 f2) ?_;rintro e2 a2 w2 ⟨fr2,H2,ι3,q2,g3,f3⟩;exact ⟨fr2,H2,ι3,q2,(g2 H ι w (Nat.le_refl _) g).trans g3,f3⟩
 | exit id=>exact ⟨fr',H',ι',q,g,f⟩
 | goto l=>exact ⟨fr',H',ι',q,g,f⟩
 | ret=>exact ⟨fr',H',ι',q,g,f⟩
 | panic ch=>exact ⟨fr',H',ι',q,g,f⟩
 | outgrown=>exact ⟨fr',H',ι',q,g,f⟩
@[go_sem] theorem Zgj {H n x} :wkV H n x .junk=True:=by simp [wkV]
@[go_sem] theorem Zj1 {H n} {x y:PV} :wkV H n (.p x) (.p y)=(y=x):=by simp [wkV,refB,frz]
@[go_sem] theorem Zju {H n o off len tot o' off' len' tot'} :wkV H n (.sl o off len tot) (.sl o' off' len' tot')=((o'=o/\off'=off/\len'=len/\tot'=tot)/\o<n):=by simp [wkV,refB]
@[go_sem] theorem Zgz {H n o off o' off'} :wkV H n (.ptr o off) (.ptr o' off')=((o'=o/\off'=off)/\o<n):=by simp [wkV,refB]
@[go_sem] theorem Ziu {H n} :wkF H n [] []=True:=by simp [wkF]
@[go_sem] theorem Zf2 {H n x l x' l'} :wkF H n (x::l) (x'::l')=(wkV H n x x'/\wkF H n l l'):=by simp [wkF]
@[go_sem] theorem ZhZ {H n l} :wkH H n l []=True:=by simp [wkH]
@[go_sem] theorem Zgm {H n x l x' l'} :wkH H n (x::l) (x'::l')=(wkO H n x x'/\wkH H n l l'):=by simp [wkH]
@[go_sem] theorem Zd6 {H n cs cs'} :wkO H n (.cells cs) (.cells cs')=wkF H n cs cs':=by simp [wkO]
@[go_sem] theorem Zfp {H n S S' xs xs'} :wkO H n (.elems S xs) (.elems S' xs')=(S=S'/\xs=xs'):=by simp [wkO]
theorem Weak.mk {n0 fr H fr' H'} (h:n0<=H'.length/\H'.length<=H.length/\wkF H H'.length fr fr'/\wkH H H'.length H H'):Weak n0 fr H fr' H':=Weak.of h.1 h.2.2.1 h.2.2.2 h.2.1
theorem wk {n0 fr H fr' H'} (h:n0<=H'.length/\H'.length<=H.length/\wkF H H'.length fr fr'/\wkH H H'.length H H':=by simp (disch:=omega) only [go_sem,seval]):Weak n0 fr H fr' H':=Weak.mk h
theorem we {n0 x H' a b} (h:n0<=List.length b/\List.length b<=H'.length/\wkF H' (List.length b) [x] [a]/\wkH H' (List.length b) H' b:=by simp (disch:=omega) only [go_sem,seval]): ∃y H'',Weak n0 [x] H' [y] H''/\y=a/\H''=b:=⟨_,_,Weak.mk h,rfl,rfl⟩
attribute [go_sem] List.length_cons List.length_nil List.cons_append List.nil_append List.append_nil List.map_cons List.map_nil List.drop_zero List.drop_succ_cons List.drop_nil List.take_succ_cons List.take_zero List.take_nil List.all_cons List.all_nil
 Nat.zero_add Nat.add_zero and_self true_and and_true Option.map_some Option.bind_some List.getElem?_cons_zero List.getElem?_cons_succ Bool.and_true Bool.true_and Bool.and_self List.length_map if_true if_false decide_true decide_false IntWalk.i64_in IntWalk.i32_in IntWalk.u8_in IntWalk.u64_in IntWalk.u32_in
 beq_self_eq_true List.replicate_succ List.replicate_zero Bool.or_true Bool.true_or Bool.or_false Bool.false_or Bool.not_true Bool.not_false
end Go.AM
namespace Go.AM
open Go.RowKit
theorem RP.weaker {X X':Nat->Prop} {w x v} (h:RP X w x v) (hx: ∀b,X' b->X b):RP X' w x v:=h.ext (w':=w) fun _ hb hs=>⟨fun h=>hb (hx _ h),hs,rfl⟩
theorem Good.forget {F w H' ι' w'} (he:Env F [] w) (hf: ∀b,F b->b<w.heap.size) (g:Good F [] [] w H' ι' w'):Good F [] [] w [] [] w' :=
 .up he ⟨⟨rfl,fun b hb=>by have:=hf b hb;have:=g.size;omega,fun i j b hi=>by simp at hi,fun i b hi=>by simp at hi,fun o cs ho=>by simp at ho,fun o S xs ho=>by simp at ho,fun o es ho=>by simp at ho,fun o T E r bs ho=>by simp at ho⟩,
  g.os,g.tape,g.output,fun b c t h=>(g.shape b c t h).imp (fun h=>absurd h.1 (by simp)) id,g.size,g.keep,fun _ _ h=>h,fun o ob ho=>by simp at ho⟩
theorem ACalls.pure {P g args} {y:PV} (h:ACalls P g args [] fun x _=>x= .p y):ACalls P g args [] fun x H'=>x= .p y/\H'= []:=by
 refine ⟨h.1,fun F ι w vs hr hv=> ?_⟩;have hι:ι= []:=List.eq_nil_of_length_eq_zero hr.len;subst hι;refine (h.2 F [] w vs hr hv).mono ?_;rintro e w' ⟨x,H',ι',v,rfl,rfl,gd,rv⟩
 cases rv with | p _ _ rp =>
 exact ⟨_,[],[],v,rfl,⟨rfl,rfl⟩,gd.forget hr.env hr.fin,.p _ _ (rp.weaker fun b hb=> .inl (by rcases hb with hb | hb;exact hb;simp at hb))⟩
theorem WO {F:Nat->Prop} {w w':World} {H':List Obj} {ι':List (Option Nat)} {v:Value} {o S n:Nat} {xs:List PV} (hF: ∀b,F b->b<w.heap.size) (hn:xs.length=n) (ho:oat H' o= .elems S xs)
  (gd:Good F [] [] w H' ι' w') (rv:RV F H' ι' w' (.sl o 0 n n) v): ∃ι2,Good F [] [] w [.elems S xs] ι2 w'/\RV F [.elems S xs] ι2 w' (.sl 0 0 n n) v:=by
 have hH:=Zo ho (by simp);have hlt:=(List.getElem?_eq_some_iff.1 hH).1
 have hlt':o<ι'.length:=by rw [gd.rel.len];exact hlt
 have hι':ι'[o]? =some (ι'[o]):=by simp [hlt']
 have hget: ∀ {i:Nat} {q:Option Nat},[ι'[o]][i]? =some q->i=0/\ι'[o]? =some q:=fun {i q} h=>by
  cases i with
  | zero=>simp at h;subst h;exact ⟨rfl,hι'⟩
  | succ i=>simp at h
 have hown: ∀b,Own F [ι'[o]] b->Own F ι' b:=fun b hb=>by
  rcases hb with hb | hb
  ·exact .inl hb
  ·simp at hb;right;rw [hb];simp
 refine ⟨[ι'[o]],⟨⟨⟨rfl,fun b hb=> ?_,fun i j b hi hj=> ?_,fun i b hi=> ?_,fun o' cs ho'=> ?_,fun o' S' xs' ho'=> ?_,fun o' es ho'=>by cases o'<;>simp at ho',fun o' T E r bs ho'=>by cases o'<;>simp at ho'⟩,gd.rel.env.le hown⟩,gd.os,gd.tape,gd.output,fun b c t h=>(gd.shape b c t h).imp (fun h=>absurd h.1 (by simp)) id,gd.size,gd.keep,fun b hb _ h=> ?_,fun o ob ho=>by simp at ho⟩,?_⟩
 ·have:=hF b hb;have:=gd.size;omega
 ·rw [(hget hi).1,(hget hj).1]
 ·exact gd.rel.avo o b (hget hi).2
 ·cases o' with
  | zero=>simp at ho'
  | succ i=>simp at ho'
 ·cases o' with
  | zero =>
   simp at ho';obtain ⟨rfl,rfl⟩:=ho';rcases gd.rel.elm o _ _ hH with ⟨e1,e2⟩ | ⟨b,c,t,cap,e1,e2,e3,e4,e5,e6,e7⟩
   ·exact .inl ⟨by rw [hι'] at e1;simpa using e1,e2⟩
   ·exact .inr ⟨b,c,t,cap,by rw [hι'] at e1;simpa using e1,e2,e3,e4,e5,e6,fun i x j y hi hj=>(e7 i x j y hi hj).weaker hown⟩
  | succ i=>simp at ho'
 ·simp at h;exact gd.own b hb (by simp) (by rw [h];simp)
 ·cases rv with
  | slNil _ S2 a h1 h2 =>
   rw [hH] at h2;simp at h2;obtain ⟨rfl,rfl⟩:=h2;exact .slNil 0 S a (by rw [hι'] at h1;simpa using h1) rfl
  | sl _ _ _ _ b S2 cap t xs2 c h1 h2 ht hw hcap hl hlen hm =>
   rw [hH] at h2;simp at h2;obtain ⟨rfl,rfl⟩:=h2;exact .sl 0 0 n n b S cap t xs c (by rw [hι'] at h1;simpa using h1) rfl hn hw hcap hl hlen hm
  | slD _ _ _ _ _ h1=>rw [hH] at h1;cases h1
  | slS _ _ _ _ _ S2 xs2 h1 hne=>rw [hH] at h1;simp at h1;obtain ⟨_,rfl⟩:=h1;omega
  | slC _ _ _ _ _ _ hd=>rw [hH] at hd;cases hd
theorem ACalls.fresh {P g args} {S n:Nat} {xs:List PV} (hn:xs.length=n) (h:ACalls P g args [] fun x H'=> ∃o,x= .sl o 0 n n/\oat H' o= .elems S xs):ACalls P g args [] fun x H'=>x= .sl 0 0 n n/\H'= [.elems S xs]:=by
 refine ⟨h.1,fun F ι w vs hr hv=> ?_⟩;have hι:ι= []:=List.eq_nil_of_length_eq_zero hr.len;subst hι;refine (h.2 F [] w vs hr hv).mono ?_;rintro e w' ⟨x,H',ι',v,rfl,⟨o,rfl,ho⟩,gd,rv⟩;obtain ⟨ι2,g2,r2⟩:=WO hr.fin hn ho gd rv;exact ⟨_,_,ι2,v,rfl,⟨rfl,rfl⟩,g2,r2⟩
theorem ACalls.freshE {P g args} {α:Type} {S:Nat} {f:α->PV} {R:List α->Prop} (h:ACalls P g args [] fun x H'=> ∃l:List α,R l/\ ∃o,x= .sl o 0 l.length l.length/\oat H' o= .elems S (l.map f)) :
  ACalls P g args [] fun x H'=> ∃l:List α,R l/\x= .sl 0 0 l.length l.length/\H'= [.elems S (l.map f)]:=by
 refine ⟨h.1,fun F ι w vs hr hv=> ?_⟩;have hι:ι= []:=List.eq_nil_of_length_eq_zero hr.len;subst hι;refine (h.2 F [] w vs hr hv).mono ?_;rintro e w' ⟨x,H',ι',v,rfl,⟨l,hl,o,rfl,ho⟩,gd,rv⟩;obtain ⟨ι2,g2,r2⟩:=WO hr.fin (by simp) ho gd rv;exact ⟨_,_,ι2,v,rfl,⟨l,hl,rfl,rfl⟩,g2,r2⟩
theorem ACalls.frozen {P g args} {S n:Nat} {xs:List PV} (hn:xs.length=n) (h:ACalls P g args [] fun x H'=>x= .sl 0 0 n n/\H'= [.elems S xs]):ACalls P g args [] fun x H'=>x= .p (.list false xs)/\H'= []:=by
 refine ⟨h.1,fun F ι w vs hr hv=> ?_⟩;have hι:ι= []:=List.eq_nil_of_length_eq_zero hr.len;subst hι;refine (h.2 F [] w vs hr hv).mono ?_;rintro e w' ⟨x,H',ι',v,rfl,⟨rfl,rfl⟩,gd,rv⟩;have hk:Keeps (Own F ι') w' (Own F []) w':=fun b hb hs=>⟨fun h=>hb (.inl (by rcases h with h | h;exact h;simp at h)),hs,rfl⟩
 have:=WW (S:=S) (xs:=xs) (off:=0) (len:=n) (tot:=n) (Own F []) (fun b hb h=>by
  rcases h with h | h
  ·exact (gd.rel.avo 0 b hb).1 h
  ·simp at h) hk gd.rel rfl hn (by omega) rv
 rw [Nat.zero_add,List.drop_zero,List.take_of_length_le (by omega)] at this;exact ⟨_,[],[],v,rfl,⟨rfl,rfl⟩,gd.forget hr.env hr.fin,.p _ _ this⟩
theorem ACalls.frozenE {P g args} {α:Type} {S:Nat} {f:α->PV} {R:List α->Prop} (h:ACalls P g args [] fun x H'=> ∃l:List α,R l/\x= .sl 0 0 l.length l.length/\H'= [.elems S (l.map f)]) :
  ACalls P g args [] fun x H'=> ∃l:List α,R l/\x= .p (.list false (l.map f))/\H'= []:=by
 refine ⟨h.1,fun F ι w vs hr hv=> ?_⟩;have hι:ι= []:=List.eq_nil_of_length_eq_zero hr.len;subst hι;refine (h.2 F [] w vs hr hv).mono ?_;rintro e w' ⟨x,H',ι',v,rfl,⟨l,hl,rfl,rfl⟩,gd,rv⟩;have hk:Keeps (Own F ι') w' (Own F []) w':=fun b hb hs=>⟨fun h=>hb (.inl (by rcases h with h | h;exact h;simp at h)),hs,rfl⟩
 have:=WW (S:=S) (xs:=l.map f) (off:=0) (len:=l.length) (tot:=l.length) (Own F []) (fun b hb h=>by
  rcases h with h | h
  ·exact (gd.rel.avo 0 b hb).1 h
  ·simp at h) hk gd.rel rfl (by simp) (by omega) rv
 rw [Nat.zero_add,List.drop_zero,List.take_of_length_le (by simp)] at this;exact ⟨_,[],[],v,rfl,⟨l,hl,rfl,rfl⟩,gd.forget hr.env hr.fin,.p _ _ this⟩
theorem ACalls.useV {P g args} {α:Type} {f:α->PV} {R:α->Prop} {H:List Obj} {K:V->List Obj->Prop} (h:ACalls P g args [] fun x H'=> ∃a:α,R a/\x= .p (f a)/\H'= []) (k: ∀a,R a->K (.p (f a)) H) (ha:ZS 0 args=true:=by rfl):ACalls P g args H K:=by
 refine (h.behind ha H).mono ?_;rintro x H' ⟨y',H1,⟨a,ra,rfl,rfl⟩,rfl,rfl⟩;simpa [shV] using k a ra
theorem ACalls.useE {P g args} {α:Type} {S:Nat} {f:α->PV} {R:List α->Prop} {H:List Obj} {K:V->List Obj->Prop} (h:ACalls P g args [] fun x H'=> ∃l:List α,R l/\x= .sl 0 0 l.length l.length/\H'= [.elems S (l.map f)])
  (k: ∀l,R l->K (.sl H.length 0 l.length l.length) (H++ [.elems S (l.map f)])) (ha:ZS 0 args=true:=by rfl):ACalls P g args H K:=by
 refine (h.behind ha H).mono ?_;rintro x H' ⟨y',H1,⟨l,rl,rfl,rfl⟩,rfl,rfl⟩;simpa [shV,shO] using k l rl
theorem ACalls.use {P g args} {y:PV} {H:List Obj} {K:V->List Obj->Prop} (h:ACalls P g args [] fun x H'=>x= .p y/\H'= []) (k:K (.p y) H) (ha:ZS 0 args=true:=by rfl):ACalls P g args H K:=by
 refine (h.behind ha H).mono ?_;rintro x H' ⟨y',H1,⟨rfl,rfl⟩,rfl,rfl⟩;simpa [shV] using k
theorem ACalls.useF {P g args} {S n:Nat} {xs:List PV} {H:List Obj} {K:V->List Obj->Prop} (h:ACalls P g args [] fun x H'=>x= .sl 0 0 n n/\H'= [.elems S xs]) (k:K (.sl H.length 0 n n) (H++ [.elems S xs])) (ha:ZS 0 args=true:=by rfl):ACalls P g args H K:=by
 refine (h.behind ha H).mono ?_;rintro x H' ⟨y',H1,⟨rfl,rfl⟩,rfl,rfl⟩;simpa [shV,shO] using k
theorem Zd {P:Program} {g:FuncId} {fn:Func} {c:Code} {args:List V} {y:PV} (hf:P.funcs[g]? =some fn) (hb:fn.body=some c) (hg:Zq P g)
  (h:awp [] P c (args++List.replicate (fn.ntmps-args.length) .junk) [] (Vy P fn.results.toList fun x _=>x= .p y)):ACalls P g args [] fun x H'=>x= .p y/\H'= [] :=
 (Z1 hf hb hg (Za [] _ _ _ _ h)).pure
theorem VT (cuts:List Nat) {P:Program} {g:FuncId} {fn:Func} {c:Code} {args:List V} {y:PV} (hf:P.funcs[g]? =some fn) (hb:fn.body=some c) (hg:Zq P g)
  (h:awp cuts P c (args++List.replicate (fn.ntmps-args.length) .junk) [] (Vy P fn.results.toList fun x _=>x= .p y)):ACalls P g args [] fun x H'=>x= .p y/\H'= [] :=
 (Z1 hf hb hg (Za cuts _ _ _ _ h)).pure
theorem VC {P:Program} {g:FuncId} {fn:Func} {c:Code} {args:List V} {S n:Nat} {xs:List PV} (hn:xs.length=n) (hf:P.funcs[g]? =some fn) (hb:fn.body=some c) (hg:Zq P g)
  (h:awp [] P c (args++List.replicate (fn.ntmps-args.length) .junk) [] (Vy P fn.results.toList fun x H'=> ∃o,x= .sl o 0 n n/\oat H' o= .elems S xs)):ACalls P g args [] fun x H'=>x= .sl 0 0 n n/\H'= [.elems S xs] :=
 (Z1 hf hb hg (Za [] _ _ _ _ h)).fresh hn
theorem Vd (cuts:List Nat) {P:Program} {g:FuncId} {fn:Func} {c:Code} {args:List V} {S n:Nat} {xs:List PV} (hn:xs.length=n) (hf:P.funcs[g]? =some fn) (hb:fn.body=some c) (hg:Zq P g)
  (h:awp cuts P c (args++List.replicate (fn.ntmps-args.length) .junk) [] (Vy P fn.results.toList fun x H'=> ∃o,x= .sl o 0 n n/\oat H' o= .elems S xs)):ACalls P g args [] fun x H'=>x= .sl 0 0 n n/\H'= [.elems S xs] :=
 (Z1 hf hb hg (Za cuts _ _ _ _ h)).fresh hn
theorem Zi (cuts:List Nat) {P:Program} {g:FuncId} {fn:Func} {c:Code} {args:List V} {α:Type} {S:Nat} {f:α->PV} {R:List α->Prop} (hf:P.funcs[g]? =some fn) (hb:fn.body=some c) (hg:Zq P g)
  (h:awp cuts P c (args++List.replicate (fn.ntmps-args.length) .junk) [] (Vy P fn.results.toList fun x H'=> ∃l:List α,R l/\ ∃o,x= .sl o 0 l.length l.length/\oat H' o= .elems S (l.map f))):ACalls P g args [] fun x H'=> ∃l:List α,R l/\x= .sl 0 0 l.length l.length/\H'= [.elems S (l.map f)] :=
 (Z1 hf hb hg (Za cuts _ _ _ _ h)).freshE
theorem Weak.ofNil {n0 fr H fr' H'} (t S:Nat) (h:gt fr t= .p (.list true [])) (hn:n0<=H.length) (k:Weak n0 (pt fr t (.sl H.length 0 0 0)) (H++ [.elems S []]) fr' H'):Weak n0 fr H fr' H' :=
 (Weak.nil t S h hn).trans k
end Go.AM
namespace Go.AM
open Go.RowKit
section
variable {P : Program} {H : List Obj} {t : TypeId} {fr : List V}
end
def Zb2 (P:Program) (d:Option TypeDesc) (x i:V):Option V :=
 match d,x,i with
 | some .string,.p (.str s),.p (.int _ n)=>if 0<=n then (s[n.toNat]?).map fun b=> .p (.int .u8 b.toNat) else none
 | some (.array k e),.p (.agg cs),.p (.int _ n)=>if 0<=n/\n<k then (match tsz P e with | some m=>(apart P e cs (n.toNat*m)).map .p | none=>none) else none
 | _,_,_=>none
@[go_sem] theorem Zii {P:Program} {t:TypeId} {x i:V} :Jv P t x i=Zb2 P (P.underlying t) x i:=Eq.trans rfl rfl
@[go_sem] theorem Zeu {P:Program} {s:List UInt8} {k n} (h0:0<=n) (h1:n<(s.length:Int)):Zb2 P (some .string) (.p (.str s)) (.p (.int k n))=some (.p (.int .u8 ((nth s n.toNat).toNat:Nat))):=by
 have h:n.toNat<s.length:=by omega
 simp [Zb2,h0,h,Zn h]
section
variable {P : Program} {H : List Obj} {t : TypeId} {fr : List V}
end
@[go_sem low] theorem ZaC {H:List Obj} {S b xs ys o n} :UZ H (some (S,b)) (.elems S xs) o n (some ys)=if xs.length=n/\okE S ys=true/\(n+ys.length)*b<=140737488355328/\n+ys.length<=140737488355328 then some (.sl o 0 (n+ys.length) (n+ys.length),ost H o (.elems S (xs++ys))) else none:=by simp [UZ]
@[go_sem] theorem Zkn {n x} :refB n (.p x)=true:=by simp [refB]
@[go_sem] theorem Zes {n} :ZS n []=true:=by simp [ZS]
@[go_sem] theorem Zda {n x l} :ZS n (x::l)=(refB n x&&ZS n l):=by simp [ZS]
theorem Zel (x y:Nat) (hx:x<9223372036854775808) (hy:y<9223372036854775808):IntKind.i64.wrap ((BitVec.ofInt 64 (x:Int)|||BitVec.ofInt 64 (y:Int)).toNat:Int)=((x|||y:Nat):Int):=by
 have e:(BitVec.ofInt 64 (x:Int)|||BitVec.ofInt 64 (y:Int)).toNat=x|||y:=by
  simp [BitVec.toNat_or,Nat.mod_eq_of_lt (show x<18446744073709551616 by omega),Nat.mod_eq_of_lt (show y<18446744073709551616 by omega)]
 have h:x|||y<2^63:=Nat.or_lt_two_pow (by omega) (by omega);rw [e];exact IntWalk.i64_in _ (by omega)
@[go_sem high] theorem ZhC {P:Program} {t:TypeId} {x y:Nat} (hx:x<9223372036854775808) (hy:y<9223372036854775808):X5 P .or t (.p (.int .i64 (x:Int))) (.p (.int .i64 (y:Int)))=some (.int .i64 ((x|||y:Nat):Int)):=by
 rw [ZcN];exact congrArg (fun q=>some (PV.int .i64 q)) (Zel x y hx hy)
def pw (k:Nat):Nat:=2^k
theorem ZcQ {k m:Nat} (h:k<=m):pw k<=pw m:=Nat.pow_le_pow_right (by omega) h
theorem ZbY : pw 62=4611686018427387904:=by decide
@[go_sem high] theorem Zeh {P:Program} {t:TypeId} {k'} {a:Int} (h0:0<=a) (h1:a<=62):X5 P .shl t (.p (.int .i64 1)) (.p (.int k' a))=some (.int .i64 ((pw a.toNat:Nat):Int)):=by
 rw [Za1 h0]
 have h2:min a.toNat IntKind.i64.bits=a.toNat:=by show min a.toNat 64=a.toNat;omega
 rw [h2,Int.one_mul]
 have h3:((2:Int)^a.toNat)=((pw a.toNat:Nat):Int):=by simp [pw]
 rw [h3];have:=ZcQ (show a.toNat<=62 by omega);have:=ZbY;rw [IntWalk.i64_in _ (by omega)]
attribute [go_sem] List.length_append List.map_append not_false_eq_true not_true_eq_false false_and and_false true_or or_true false_or or_false Classical.not_not Bool.false_eq_true Bool.and_false Bool.false_and
end Go.AM
namespace Go.AM
open Go.RowKit
theorem Jq {P ds frJ H} {K K':List V->Prop} : ∀(l:List Oper) (i:Nat) (vals:List V),(∀ys,ys.length=vals.length+l.length->K ys->K' ys)->hd P ds frJ H K i l vals->hd P ds frJ H K' i l vals
 | [],i,vals,hk,h=>hk vals rfl h
 | o::l,i,vals,hk,h=>by
  have ih: ∀y,hd P ds frJ H K (i+1) l (vals++ [y])->hd P ds frJ H K' (i+1) l (vals++ [y]):=fun y=>Jq l (i+1) (vals++ [y]) fun ys hy=>hk ys (by simp at hy ⊢;omega);simp only [hd] at h ⊢
  split at h
  ·obtain ⟨y,h1,h2⟩:=h;exact ⟨y,h1,ih y h2⟩
  ·unfold ZI at h ⊢
   split at h
   ·exact ⟨fun e=>by obtain ⟨y,h1,h2⟩:=h.1 e;exact ⟨y,h1,ih y h2⟩,fun e=>ih _ (h.2 e)⟩
   ·exact ih _ h
   ·exact h.elim
def X7 : List (Option Nat)->List V->List V->List V
 | some d::ds,v::vals,fr=>X7 ds vals (pt fr d v)
 | none::ds,_::vals,fr=>X7 ds vals fr
 | _,_,fr=>fr
def exq (A:V->Prop) (B:V->Prop):Prop:= ∃y,A y/\B y
section
variable {P : Program} {ds : List (Option Nat)} {frJ : List V} {H : List Obj} {K : List V -> Prop} {i : Nat} {r : List Oper} {vals : List V} {d : Option Nat} {op : Op} {t : TypeId} {ps : String} {af : Array Edge}
@[go_sem ↓, go_sem] theorem ZkA {v:V} {B:V->Prop} {t} :exq (fun y=>v=y) (Zw B t)=B v:=by simp [exq,Zw]
theorem Zm {f azs} {z:PV} {B:V->Prop} {t} (h:ACalls P f azs [] fun x H'=>x= .p z/\H'= []) (k:B (.p z)) (ha:ZS 0 azs=true:=by rfl) :
  exq (fun y=>ACalls P f azs H (Zw (Zw (fun x H'=>x=y/\H'=H) ⟨⟩) ⟨⟩)) (Zw B t) :=
 ⟨.p z,h.use ⟨rfl,rfl⟩ ha,k⟩
end
section
variable {P : Program} {fr : List V} {H : List Obj} {k : V -> List Obj -> Prop} {d : Option Nat} {t : TypeId} {ps : String} {af : Array Edge} {g : Option (Nat × Bool)}
@[go_sem ↓] theorem Zdt {u n l} :Ze P ⟨d,.buildSlice u n (List.toArray l),t,ps,af,g⟩ fr H k=pst ((Jd (U7 P u) H n (l.map fun x=>(x.1,ev fr x.2))).map .p) (Zw (fun v=>k v H) ⟨⟩):=by
 simp only [Ze]
 cases (Jd (U7 P u) H n (l.map fun x=>(x.1,ev fr x.2)))<;>simp [pst,Zw]
@[go_sem] theorem Zdv {S n l} :Jd (some S) H n l=if n=l.length/\n*S<=16777216/\0<S then (Vx H S 0 l).map (.list false) else none:=Eq.trans rfl rfl
@[go_sem ↓] theorem Zct {x} :Ze P ⟨d,.move x,t,ps,af,g⟩ fr H k=Zj P ⟨d,.move x,t,ps,af,g⟩ fr H k:=rfl
@[go_sem ↓] theorem Zaz {x} :Ze P ⟨d,.assign x,t,ps,af,g⟩ fr H k=Zj P ⟨d,.assign x,t,ps,af,g⟩ fr H k:=rfl
@[go_sem ↓] theorem ZbE {x y z} :Ze P ⟨d,.pick x y z,t,ps,af,g⟩ fr H k=Zj P ⟨d,.pick x y z,t,ps,af,g⟩ fr H k:=rfl
@[go_sem ↓] theorem Zbx {x} :Ze P ⟨d,.alloc x,t,ps,af,g⟩ fr H k=Zj P ⟨d,.alloc x,t,ps,af,g⟩ fr H k:=rfl
@[go_sem ↓] theorem Zc7 {x y} :Ze P ⟨d,.box x y,t,ps,af,g⟩ fr H k=Zj P ⟨d,.box x y,t,ps,af,g⟩ fr H k:=rfl
@[go_sem ↓] theorem Zbf {x y} :Ze P ⟨d,.build x y,t,ps,af,g⟩ fr H k=Zj P ⟨d,.build x y,t,ps,af,g⟩ fr H k:=rfl
@[go_sem ↓] theorem Zcj {x y} :Ze P ⟨d,.load x y,t,ps,af,g⟩ fr H k=Zj P ⟨d,.load x y,t,ps,af,g⟩ fr H k:=rfl
@[go_sem ↓] theorem Zbd {x y z} :Ze P ⟨d,.store x y z,t,ps,af,g⟩ fr H k=Zj P ⟨d,.store x y z,t,ps,af,g⟩ fr H k:=rfl
@[go_sem ↓] theorem JI {x} :Ze P ⟨d,.nilCheck x,t,ps,af,g⟩ fr H k=Zj P ⟨d,.nilCheck x,t,ps,af,g⟩ fr H k:=rfl
@[go_sem ↓] theorem Zbm {x y z u v} :Ze P ⟨d,.binOp x y z u v,t,ps,af,g⟩ fr H k=Zj P ⟨d,.binOp x y z u v,t,ps,af,g⟩ fr H k:=rfl
@[go_sem ↓] theorem Zb7 {x y z} :Ze P ⟨d,.unOp x y z,t,ps,af,g⟩ fr H k=Zj P ⟨d,.unOp x y z,t,ps,af,g⟩ fr H k:=rfl
@[go_sem ↓] theorem KU {x y z} :Ze P ⟨d,.convert x y z,t,ps,af,g⟩ fr H k=Zj P ⟨d,.convert x y z,t,ps,af,g⟩ fr H k:=rfl
@[go_sem ↓] theorem J3 {x y z} :Ze P ⟨d,.makeFunc x y z,t,ps,af,g⟩ fr H k=Zj P ⟨d,.makeFunc x y z,t,ps,af,g⟩ fr H k:=rfl
@[go_sem ↓] theorem Jg {x y z} :Ze P ⟨d,.makeSlice x y z,t,ps,af,g⟩ fr H k=Zj P ⟨d,.makeSlice x y z,t,ps,af,g⟩ fr H k:=rfl
@[go_sem ↓] theorem Zbh {x y z u v} :Ze P ⟨d,.slice x y z u v,t,ps,af,g⟩ fr H k=Zj P ⟨d,.slice x y z u v,t,ps,af,g⟩ fr H k:=rfl
@[go_sem ↓] theorem Je {x y z} :Ze P ⟨d,.fieldAddr x y z,t,ps,af,g⟩ fr H k=Zj P ⟨d,.fieldAddr x y z,t,ps,af,g⟩ fr H k:=rfl
@[go_sem ↓] theorem ZbA {x y z} :Ze P ⟨d,.field x y z,t,ps,af,g⟩ fr H k=Zj P ⟨d,.field x y z,t,ps,af,g⟩ fr H k:=rfl
@[go_sem ↓] theorem Jf {x y z} :Ze P ⟨d,.indexAddr x y z,t,ps,af,g⟩ fr H k=Zj P ⟨d,.indexAddr x y z,t,ps,af,g⟩ fr H k:=rfl
@[go_sem ↓] theorem Zbq {x y z} :Ze P ⟨d,.index x y z,t,ps,af,g⟩ fr H k=Zj P ⟨d,.index x y z,t,ps,af,g⟩ fr H k:=rfl
@[go_sem ↓] theorem KX {x y} :Ze P ⟨d,.extract x y,t,ps,af,g⟩ fr H k=Zj P ⟨d,.extract x y,t,ps,af,g⟩ fr H k:=rfl
@[go_sem ↓] theorem Zcw {x y z} :Ze P ⟨d,.call ⟨.value x,y,z⟩,t,ps,af,g⟩ fr H k=Zj P ⟨d,.call ⟨.value x,y,z⟩,t,ps,af,g⟩ fr H k:=rfl
@[go_sem ↓] theorem Zdx {y z} :Ze P ⟨d,.call ⟨.builtin .len,y,z⟩,t,ps,af,g⟩ fr H k=Zj P ⟨d,.call ⟨.builtin .len,y,z⟩,t,ps,af,g⟩ fr H k:=rfl
@[go_sem ↓] theorem Zdq {y z} :Ze P ⟨d,.call ⟨.builtin .max,y,z⟩,t,ps,af,g⟩ fr H k=Zj P ⟨d,.call ⟨.builtin .max,y,z⟩,t,ps,af,g⟩ fr H k:=rfl
@[go_sem ↓] theorem Zdn {y z} :Ze P ⟨d,.call ⟨.builtin .min,y,z⟩,t,ps,af,g⟩ fr H k=Zj P ⟨d,.call ⟨.builtin .min,y,z⟩,t,ps,af,g⟩ fr H k:=rfl
theorem VS {o fr' H'} (h:fr=fr') (h2:H=H'):Ze P o fr H k=Ze P o fr' H' k:=by rw [h,h2]
end
attribute [congr] VS
attribute [go_sem] List.filter_cons List.filter_nil
end Go.AM
namespace Go.AM
open Go.RowKit
abbrev QP : Nat->Prop:=fun _=>False
theorem ZaE {b:Nat} : ¬Own QP [] b:=by simp [Own]
theorem U8 {w:World} (he:Env QP [] w):Rel QP [] [] w:=⟨⟨rfl,fun b hb=>hb.elim,fun i j b hi=>by simp at hi,fun i b hi=>by simp at hi,fun o cs ho=>by simp at ho,fun o S xs ho=>by simp at ho,fun o es ho=>by simp at ho,fun o T E r bs ho=>by simp at ho⟩,he⟩
attribute [go_sem] Option.map_none
end Go.AM
set_option linter.unusedVariables false
set_option linter.unusedSimpArgs false
namespace Go.Proofs.YtgknhiknjimdpaaGreatDoor.K
open Go Go.AM
def Val (n:Nat) (be:List (Int×Int)):Prop:= ∀p∈be,0<=p.1/\p.1<n/\0<=p.2/\p.2<n
def tot (l:List Nat):Nat:=l.foldr (· + ·) 0
end Go.Proofs.YtgknhiknjimdpaaGreatDoor.K
