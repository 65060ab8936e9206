/- Declarations that the closing texts need, part 4: joined by tools/slim.py. -/
import Derived.Test.YtcpmilhkineciaaGreatDoorZ3
set_option linter.unusedVariables false
set_option linter.unusedSimpArgs false
universe u
namespace Go.AM
open Go.RowKit
structure Tk {α:Sort u} (a:α):Type where
def ZB {α:Sort u} (a:α) (_:Tk a):α:=a
@[go_sem] theorem Zmz {α β:Type} {f:α->β} {t x} :ZB f t x=f x:=Eq.trans rfl rfl
@[go_sem ↓] theorem Zrk {α β:Type} {f:α->β->Prop} {t x y} :ZB f t x y=f x y:=Eq.trans rfl rfl
@[go_sem ↓] theorem ZqQ {α β γ:Type} {f:α->β->γ->Prop} {t x y z} :ZB f t x y z=f x y z:=Eq.trans rfl rfl
def pst (x:Option V) (K:V->Prop):Prop:=match x with | some v=>K v | none=>False
def mst (x:Option (V×List Obj)) (K:V->List Obj->Prop):Prop:=match x with | some (v,H)=>K v H | none=>False
def bst (x:V) (K:Bool->Prop):Prop:=match x with | .p (.bool b)=>K b | _=>False
def hst (x:Option (List Obj)) (K:List Obj->Prop):Prop:=match x with | some H=>K H | none=>False
@[go_sem ↓, go_sem] theorem ZtF {v K} :pst (some v) K=K v:=Eq.trans rfl rfl
@[go_sem ↓, go_sem] theorem Zs3 {v H K} :mst (some (v,H)) K=K v H:=Eq.trans rfl rfl
@[go_sem ↓, go_sem] theorem Zr9 {H K} :hst (some H) K=K H:=Eq.trans rfl rfl
@[congr] theorem Znv {x x' K} (h:x=x'):pst x K=pst x' K:=by rw [h]
@[congr] theorem ZqU {x x' K} (h:x=x'):mst x K=mst x' K:=by rw [h]
@[congr] theorem Zow {x x' K} (h:x=x'):hst x K=hst x' K:=by rw [h]
def idF (fr:List V):List V:=fr
@[go_sem] theorem ZxB {fr} :idF fr=fr:=Eq.trans rfl rfl
section code
variable {cuts : List Nat} {P : Program} {fr : List V} {H : List Obj} {Q : Exit -> List V -> List Obj -> Prop}
@[go_sem ↓] theorem ZoB : awp cuts P .skip fr H Q=Q .normal fr H:=Eq.trans rfl rfl
@[go_sem ↓] theorem ZiQ {id} {l:List Oper} :awp cuts P (.region id l.toArray false) fr H Q=Yo P (l.map (·.dst)) l (idF fr) H (ZB (Q .normal) ⟨⟩):=by simp [awp,idF,ZB]
@[go_sem ↓] theorem ZlT {id ops} :awp cuts P (.region id ops true) fr H Q=AWP P (.region id (ZB ops ⟨⟩) true) fr H (ZB Q ⟨⟩):=by simp [awp,ZB]
@[go_sem ↓] theorem Zt1 {x y} :awp [] P (.seq x y) fr H Q=awp [] P x fr H (Vq (fun fr H=>awp [] P y fr H Q) Q):=by
 rw [awp];cases hid x<;>simp
def ZhV (b:Bool) (A B:Prop):Prop:=if b then A else B
def ZaC (cuts:List Nat):Option Nat->Bool
 | some i=>cuts.contains i
 | none=>false
@[go_sem ↓] theorem Zpq {k x y} :awp (k::cuts) P (.seq x y) fr H Q=ZhV (ZaC (k::cuts) (hid x)) (ZB (AWP P (.seq (ZB x ⟨⟩) (ZB y ⟨⟩)) fr H (ZB Q ⟨⟩)) ⟨⟩) (ZB (awp (k::cuts) P x fr H (Vq (fun fr H=>awp (k::cuts) P y fr H Q) Q)) ⟨⟩):=by
 rw [awp];cases hid x<;>simp [ZhV,ZaC,ZB]
@[go_sem ↓, go_sem] theorem Zoa {A B:Prop} {t} :ZhV true (ZB A t) B=A:=by simp [ZhV,ZB]
@[go_sem ↓, go_sem] theorem ZlU {A B:Prop} {t} :ZhV false A (ZB B t)=B:=by simp [ZhV,ZB]
theorem Zck {b b' A B} (h:b=b'):ZhV b A B=ZhV b' A B:=by rw [h]
@[go_sem ↓] theorem ZlO {id ops d} :hid (.region id ops d)=some id:=Eq.trans rfl rfl
@[go_sem ↓] theorem Zwg {x y} :hid (.seq x y)=hid x:=Eq.trans rfl rfl
@[go_sem ↓] theorem Zok {id c} :hid (.block id c)=hid c:=Eq.trans rfl rfl
@[go_sem ↓] theorem ZsV {c x y} :hid (.cond c x y)=none:=Eq.trans rfl rfl
@[go_sem] theorem Zly : ZaC cuts none=false:=Eq.trans rfl rfl
@[go_sem] theorem Zqj {i} :ZaC [] (some i)=false:=Eq.trans rfl rfl
@[go_sem] theorem ZlE {k i} :ZaC (k::cuts) (some i)=(decide (i=k)||ZaC cuts (some i)):=by by_cases h:i=k<;>simp [ZaC,h]
@[go_sem ↓] theorem Zo4 {c x y} :awp cuts P (.cond c x y) fr H Q=Wq (ev fr c) (ZB (awp cuts P x fr H Q) ⟨⟩) (ZB (awp cuts P y fr H Q) ⟨⟩):=Eq.trans rfl rfl
@[go_sem ↓] theorem Zln {id c} :awp cuts P (.block id c) fr H Q=awp cuts P c fr H (Y2 id Q):=Eq.trans rfl rfl
@[go_sem ↓] theorem Zp6 {id} :awp cuts P (.exit id) fr H Q=Q (.exit id) fr H:=Eq.trans rfl rfl
@[go_sem ↓] theorem Zsy : awp cuts P .ret fr H Q=Q .ret fr H:=Eq.trans rfl rfl
@[go_sem ↓] theorem Zp7 {c} :awp cuts P (.loop c) fr H Q=AWP P (.loop (ZB c ⟨⟩)) fr H (ZB Q ⟨⟩):=Eq.trans rfl rfl
@[go_sem ↓] theorem ZnX {c t} :awp cuts P (ZB c t) fr H Q=awp cuts P c fr H Q:=Eq.trans rfl rfl
theorem Zdh {c fr' H'} (h:fr=fr') (h2:H=H'):awp cuts P c fr H Q=awp cuts P c fr' H' Q:=by rw [h,h2]
theorem Zdf {c fr' H'} (h:fr=fr') (h2:H=H'):AWP P c fr H Q=AWP P c fr' H' Q:=by rw [h,h2]
@[go_sem ↓] theorem Zh8 {A:List V->List Obj->Prop} :Vq A Q .normal fr H=A fr H:=Eq.trans rfl rfl
@[go_sem ↓] theorem Zk0 {A:List V->List Obj->Prop} {id} :Vq A Q (.exit id) fr H=Q (.exit id) fr H:=Eq.trans rfl rfl
@[go_sem ↓] theorem Zm9 {A:List V->List Obj->Prop} :Vq A Q .ret fr H=Q .ret fr H:=Eq.trans rfl rfl
@[go_sem ↓] theorem Zgo {id} :Y2 id Q .normal fr H=Q .normal fr H:=Eq.trans rfl rfl
@[go_sem ↓] theorem ZlM {id} :Y2 id Q .ret fr H=Q .ret fr H:=Eq.trans rfl rfl
@[go_sem ↓] theorem ZkG {id id'} :Y2 id Q (.exit id') fr H=if id'=id then Q .normal fr H else Q (.exit id') fr H:=Eq.trans rfl rfl
theorem K3 {A:List V->List Obj->Prop} {e fr' H'} (h:fr=fr') (h2:H=H'):Vq A Q e fr H=Vq A Q e fr' H':=by rw [h,h2]
theorem Ka {id e fr' H'} (h:fr=fr') (h2:H=H'):Y2 id Q e fr H=Y2 id Q e fr' H':=by rw [h,h2]
@[go_sem ↓] theorem Zsb {rs} {Q:V->List Obj->Prop} :KL P rs Q .ret fr H=mst ((Xw P fr H rs).map fun xs=>(YO xs,H)) (ZB Q ⟨⟩):=by
 simp only [KL,ZB];split<;>simp_all [mst]
theorem Zcu {rs e fr' H'} {Q:V->List Obj->Prop} (h:fr=fr') (h2:H=H'):KL P rs Q e fr H=KL P rs Q e fr' H':=by rw [h,h2]
@[go_sem] theorem ZlV : Xw P fr H []=some []:=Eq.trans rfl rfl
@[go_sem] theorem ZlP {t l} :Xw P fr H (.tmp t::l)=(Xw P fr H l).map (gt fr t:: ·):=by
 simp only [Xw,Zk3];cases Xw P fr H l<;>rfl
@[go_sem] theorem Zkk {a t l} :Xw P fr H (.cell a t::l)=(VD P H t (gt fr a)).bind fun x=>(Xw P fr H l).map (x:: ·):=by
 simp only [Xw,Zk3];cases VD P H t (gt fr a)<;>cases Xw P fr H l<;>rfl
@[go_sem] theorem Zlt {x} :YO [x]=x:=Eq.trans rfl rfl
@[go_sem] theorem Zb6 {x y l} :YO (x::y::l)= .tup (x::y::l):=Eq.trans rfl rfl
end code
attribute [congr] Zck Zdh Zdf K3 Ka Zcu
@[go_sem] theorem Zv1 {x:V} {l} :gt (x::l) 0=x:=Eq.trans rfl rfl
@[go_sem] theorem ZuW {x:V} {l n} :gt (x::l) (n+1)=gt l n:=Eq.trans rfl rfl
@[go_sem] theorem Zx7 {n} :gt [] n= .junk:=Eq.trans rfl rfl
@[go_sem] theorem Zvu {x v:V} {l} :pt (x::l) 0 v=v::l:=Eq.trans rfl rfl
@[go_sem] theorem ZwQ {x v:V} {l n} :pt (x::l) (n+1) v=x::pt l n v:=Eq.trans rfl rfl
@[go_sem] theorem ZtM {fr d v} :ptO fr (some d) v=pt fr d v:=Eq.trans rfl rfl
@[go_sem] theorem ZrS {fr v} :ptO fr none v=fr:=Eq.trans rfl rfl
@[go_sem] theorem ZrY {x:Obj} {l} :oat (x::l) 0=x:=Eq.trans rfl rfl
@[go_sem] theorem ZtG {x:Obj} {l n} :oat (x::l) (n+1)=oat l n:=Eq.trans rfl rfl
@[go_sem] theorem Zte {x v:Obj} {l} :ost (x::l) 0 v=v::l:=Eq.trans rfl rfl
@[go_sem] theorem Zt0 {x v:Obj} {l n} :ost (x::l) (n+1) v=x::ost l n v:=Eq.trans rfl rfl
@[go_sem] theorem Zvk {fr t} :evx fr (.tmp t)=gt fr t:=Eq.trans rfl rfl
@[go_sem] theorem Zw5 {fr t} :ev fr (.tmp t)=gt fr t:=Eq.trans rfl rfl
@[go_sem] theorem ZwG {fr f} :ev fr (.func f)= .fn (.func f) [] []:=Eq.trans rfl rfl
@[go_sem] theorem Zx8 {fr k n} :ev fr (.const (.int k n))= .p (.int k n):=Eq.trans rfl rfl
@[go_sem] theorem Zv4 {fr b} :ev fr (.const (.bool b))= .p (.bool b):=Eq.trans rfl rfl
@[go_sem] theorem ZyO {fr s} :ev fr (.const (.string s))= .p (.str s.data.toList):=Eq.trans rfl rfl
@[go_sem] theorem Zvn {fr} :ev fr (.const (.slice none 0 0))= .p (.list true []):=Eq.trans rfl rfl
@[go_sem] theorem ZyH {fr l} :ev fr (.const (.agg (List.toArray l)))=match cvs l with | some xs=> .p (.agg xs) | none=> .junk:=Eq.trans rfl rfl
@[go_sem] theorem Zsp {fr d} {l:List (Option Nat)} :gAt fr (some d::l) 0=gt fr d:=by simp [gAt]
@[go_sem] theorem Zso {fr o n} {l:List (Option Nat)} :gAt fr (o::l) (n+1)=gAt fr l n:=by simp [gAt]
section ops
variable {P : Program} {fr : List V} {H : List Obj} {ds : List (Option Nat)} {K : List V -> List Obj -> Prop} {r : List Oper} {d : Option Nat} {t : TypeId} {ps : String} {af : Array Edge} {g : Option (Nat × Bool)} {k : V -> List Obj -> Prop}
theorem Zcl {l fr' H'} (h:fr=fr') (h2:H=H'):Yo P ds l fr H K=Yo P ds l fr' H' K:=by rw [h,h2]
theorem ZaE {o fr' H'} (h:fr=fr') (h2:H=H'):Zq P o fr H k=Zq P o fr' H' k:=by rw [h,h2]
@[go_sem ↓] theorem ZrN : Yo P ds [] fr H K=K fr H:=Eq.trans rfl rfl
@[go_sem] theorem Zpe {op} :Yo P ds (⟨d,op,t,ps,af,none⟩::r) fr H K=Zq P ⟨d,op,t,ps,af,none⟩ fr H (ZB (fun x H'=>Yo P ds r (ptO fr d x) H' K) ⟨⟩):=Eq.trans rfl rfl
@[go_sem] theorem ZlQ {op j b} :Yo P ds (⟨d,op,t,ps,af,some (j,b)⟩::r) fr H K=ZX (gAt fr ds j) b (ZB (Zq P ⟨d,op,t,ps,af,none⟩ fr H (ZB (fun x H'=>Yo P ds r (ptO fr d x) H' K) ⟨⟩)) ⟨⟩) (ZB (Yo P ds r (ptO fr d (.tup [])) H K) ⟨⟩):=by
 simp only [Yo,ZB];unfold ZX
 split<;>rfl
theorem ZE {op:Op} (h:Xr op=none) (h2:Wd P op fr H=none):Zq P ⟨d,op,t,ps,af,g⟩ fr H k=pst (ZC P op fr H) fun x=>k x H:=by
 simp only [Zq,h,aop,h2]
 all_goals (cases ZC P op fr H<;>rfl)
theorem XH {op:Op} (h:Xr op=none) (h2:ZC P op fr H=none):Zq P ⟨d,op,t,ps,af,g⟩ fr H k=mst (Wd P op fr H) k:=by
 simp only [Zq,h,aop,h2,mst]
 all_goals (cases Wd P op fr H<;>rfl)
@[go_sem ↓] theorem Zls {x} :Zq P ⟨d,.move x,t,ps,af,g⟩ fr H k=k (ev fr x) H:=by rw [ZE rfl rfl];rfl
@[go_sem ↓] theorem Zh4 {x} :Zq P ⟨d,.assign x,t,ps,af,g⟩ fr H k=k (ev fr x) H:=by rw [ZE rfl rfl];rfl
def vif (b:Bool) (x y:V):V:=if b then x else y
@[go_sem] theorem ZtK {x y} :vif true x y=x:=Eq.trans rfl rfl
@[go_sem] theorem Zq4 {x y} :vif false x y=y:=Eq.trans rfl rfl
@[go_sem] theorem ZrR {b x y} :vif b (.p (.bool x)) (.p (.bool y))= .p (.bool (if b then x else y)):=by cases b<;>rfl
@[go_sem] theorem Zs9 {b} :asB (.p (.bool b))=some b:=Eq.trans rfl rfl
@[go_sem ↓] theorem Zlp {c x y} :Zq P ⟨d,.pick c x y,t,ps,af,g⟩ fr H k=pst ((asB (ev fr c)).map fun b=>vif b (ev fr x) (ev fr y)) (ZB (fun v=>k v H) ⟨⟩):=by
 rw [ZE rfl rfl];simp only [ZC,Xk]
 cases asB (ev fr c)<;>rfl
@[go_sem ↓] theorem Zlw {u x} :Zq P ⟨d,.load u x,t,ps,af,g⟩ fr H k=pst (VD P H u (ev fr x)) (ZB (fun v=>k v H) ⟨⟩):=by rw [ZE rfl rfl];rfl
@[go_sem ↓] theorem Zpt {op u x y u2} :Zq P ⟨d,.binOp op u x y u2,t,ps,af,g⟩ fr H k=pst ((X4 P op u (ev fr x) (ev fr y)).map .p) (ZB (fun v=>k v H) ⟨⟩):=by rw [ZE rfl rfl];rfl
@[go_sem ↓] theorem ZtH {op u x} :Zq P ⟨d,.unOp op u x,t,ps,af,g⟩ fr H k=pst ((aun op (ev fr x)).map .p) (ZB (fun v=>k v H) ⟨⟩):=by rw [ZE rfl rfl];rfl
def Zkq (x y:Option PV):Option PV:=match x with | some z=>some z | none=>y
@[go_sem] theorem ZlN {z y} :Zkq (some z) y=some z:=Eq.trans rfl rfl
@[go_sem] theorem ZlS {y} :Zkq none y=y:=Eq.trans rfl rfl
@[go_sem ↓] theorem Zla {s u x} :Zq P ⟨d,.convert s u x,t,ps,af,g⟩ fr H k=pst ((Zkq (Qh P H s u (ev fr x)) (ZdA P s u (ev fr x))).map .p) (ZB (fun v=>k v H) ⟨⟩):=by
 rw [ZE rfl rfl];simp only [ZC,Xk]
 cases Qh P H s u (ev fr x)<;>rfl
@[go_sem ↓] theorem ZfM {f cs es} :Zq P ⟨d,.makeFunc f (List.toArray cs) (List.toArray es),t,ps,af,g⟩ fr H k=k (.fn f (cs.map (ev fr)) (es.map (ev fr))) H:=by rw [ZE rfl rfl];rfl
@[go_sem ↓] theorem ZjN {u x lo hi mx} :Zq P ⟨d,.slice u x lo hi mx,t,ps,af,g⟩ fr H k=pst (YC P H u fr (ev fr x) lo hi mx) (ZB (fun v=>k v H) ⟨⟩):=by rw [ZE rfl rfl];rfl
@[go_sem ↓] theorem Zd0 {s x f} :Zq P ⟨d,.fieldAddr s x f,t,ps,af,g⟩ fr H k=pst (WW P H s f (ev fr x)) (ZB (fun v=>k v H) ⟨⟩):=by rw [ZE rfl rfl];rfl
@[go_sem ↓] theorem ZeD {u x i} :Zq P ⟨d,.indexAddr u x i,t,ps,af,g⟩ fr H k=pst (Wv P H u (evx fr x) (ev fr i)) (ZB (fun v=>k v H) ⟨⟩):=by rw [ZE rfl rfl];rfl
@[go_sem ↓] theorem Zki {u x i} :Zq P ⟨d,.index u x i,t,ps,af,g⟩ fr H k=pst (ZeF P u (ev fr x) (ev fr i)) (ZB (fun v=>k v H) ⟨⟩):=by rw [ZE rfl rfl];rfl
def axt (x:V) (i:Nat):Option V:=match x with | .tup vs=>vs[i]? | _=>none
@[go_sem] theorem ZvL {vs i} :axt (.tup vs) i=vs[i]? :=Eq.trans rfl rfl
@[go_sem ↓] theorem Zgm {x i} :Zq P ⟨d,.extract x i,t,ps,af,g⟩ fr H k=pst (axt (ev fr x) i) (ZB (fun v=>k v H) ⟨⟩):=by
 rw [ZE rfl rfl];simp only [ZC,Xk]
 cases ev fr x<;>rfl
@[go_sem ↓] theorem Zja {u l} :Zq P ⟨d,.build u (List.toArray l),t,ps,af,g⟩ fr H k=pst (JY P H u (l.map fun x=>(x.1,ev fr x.2))) (ZB (fun v=>k v H) ⟨⟩):=by rw [ZE rfl rfl];rfl
@[go_sem ↓] theorem Zqr {x u} :Zq P ⟨d,.call ⟨.builtin .len,#[x],#[u]⟩,t,ps,af,g⟩ fr H k=pst ((Zo1 P H u (ev fr x)).map .p) (ZB (fun v=>k v H) ⟨⟩):=by rw [ZE rfl rfl];rfl
@[go_sem ↓] theorem Zrn {x y us} :Zq P ⟨d,.call ⟨.builtin .max,#[x,y],us⟩,t,ps,af,g⟩ fr H k=pst ((ZjI false [ev fr x,ev fr y]).map .p) (ZB (fun v=>k v H) ⟨⟩):=by
 rw [ZE rfl rfl];simp only [ZC,Xk,ZaH];rfl
@[go_sem ↓] theorem Zkt {u} :Zq P ⟨d,.alloc u,t,ps,af,g⟩ fr H k=mst ((Xb P u).map fun zs=>(.ptr H.length 0,H++ [.cells (zs.map .p)])) (ZB k ⟨⟩):=by rw [XH rfl rfl];rfl
@[go_sem ↓] theorem Zo3 {u x} :Zq P ⟨d,.box u x,t,ps,af,g⟩ fr H k=mst ((vc H (ev fr x)).map fun cs=>(.ptr H.length 0,H++ [.cells cs])) (ZB k ⟨⟩):=by rw [XH rfl rfl];rfl
def ZuG (H:List Obj) (n:Option Nat) (a:V) (cs:Option (List V)):Option (List Obj):=n.bind fun n=>cs.bind fun cs=>VS H n a cs
@[go_sem] theorem Zp2 {n a cs} :ZuG H (some n) a (some cs)=VS H n a cs:=Eq.trans rfl rfl
@[go_sem ↓] theorem ZiR {u x y} :Zq P ⟨d,.store u x y,t,ps,af,g⟩ fr H k=hst (ZuG H (tsz P u) (ev fr x) (vc H (ev fr y))) (ZB (k .junk) ⟨⟩):=by
 rw [XH rfl rfl];simp only [Wd,ZuG]
 cases tsz P u<;>cases vc H (ev fr y)<;>simp [hst,mst,ZB]
 cases VS H _ (ev fr x) _<;>rfl
@[go_sem ↓] theorem ZcV {u n l} :Zq P ⟨d,.buildSlice u n (List.toArray l),t,ps,af,g⟩ fr H k=mst (Wd P (.buildSlice u n (List.toArray l)) fr H) (ZB k ⟨⟩):=by rw [XH rfl rfl];rfl
@[go_sem ↓] theorem ZhB {u} :Zq P ⟨d,.makeMap u none,t,ps,af,g⟩ fr H k=k (.mp H.length) (H++ [.map []]):=by rw [XH rfl rfl];rfl
@[go_sem ↓] theorem ZiO {u x y ok} :Zq P ⟨d,.lookup u x y ok,t,ps,af,g⟩ fr H k=mst (ZcO P H u (ev fr x) (ev fr y) ok) (ZB k ⟨⟩):=by rw [XH rfl rfl];rfl
@[go_sem ↓] theorem Zlx {u x y z} :Zq P ⟨d,.mapUpdate u x y z,t,ps,af,g⟩ fr H k=mst (Zb1 P H u (ev fr x) (ev fr y) (ev fr z)) (ZB k ⟨⟩):=by rw [XH rfl rfl];rfl
@[go_sem ↓] theorem ZcY {u x y} :Zq P ⟨d,.makeSlice u x y,t,ps,af,g⟩ fr H k=mst (Wd P (.makeSlice u x y) fr H) (ZB k ⟨⟩):=by rw [XH rfl rfl];rfl
@[go_sem ↓] theorem ZiP {x y u u2} :Zq P ⟨d,.call ⟨.builtin .append,#[x,y],#[u,u2]⟩,t,ps,af,g⟩ fr H k=mst (VZ P H u u2 (ev fr x) (ev fr y)) (ZB k ⟨⟩):=by rw [XH rfl rfl];rfl
@[go_sem ↓] theorem Zlz {f azs ts} :Zq P ⟨d,.call ⟨.value f,List.toArray azs,ts⟩,t,ps,af,g⟩ fr H k=U0 P (ev fr f) (azs.map (ev fr)) H (ZB k ⟨⟩):=Eq.trans rfl rfl
@[go_sem ↓] theorem ZtW {f fs cs azs} :U0 P (.fn (.func f) fs cs) azs H k=ACalls P f (fs++azs++cs) H k:=Eq.trans rfl rfl
@[go_sem ↓] theorem ZqY {f azs} :U0 P (.p (.fn f)) azs H k=ACalls P f azs H k:=Eq.trans rfl rfl
theorem Zai {f f' azs as'} (h:f=f') (h2:azs=as'):U0 P f azs H k=U0 P f' as' H k:=by rw [h,h2]
theorem J4 {f azs as' H'} (h2:azs=as') (h3:H=H'):ACalls P f azs H k=ACalls P f as' H' k:=by rw [h2,h3]
theorem Zal {x x' A B} (h:x=x'):Wq x A B=Wq x' A B:=by rw [h]
theorem JU {x x' b A B} (h:x=x'):ZX x b A B=ZX x' b A B:=by rw [h]
@[go_sem ↓, go_sem] theorem Zlq {A:Prop} {t B'} :Wq (.p (.bool true)) (ZB A t) B'=A:=by simp [Wq,ZB]
@[go_sem ↓, go_sem] theorem ZkS {B:Prop} {t B'} :Wq (.p (.bool false)) B' (ZB B t)=B:=by simp [Wq,ZB]
@[go_sem ↓, go_sem] theorem Zme {A:Prop} {t B} :ZX (.p (.bool true)) true (ZB A t) B=A:=by simp [ZX,ZB]
@[go_sem ↓, go_sem] theorem ZmC {B:Prop} {t A} :ZX (.p (.bool true)) false A (ZB B t)=B:=by simp [ZX,ZB]
@[go_sem ↓, go_sem] theorem ZpC {B:Prop} {t A} :ZX (.p (.bool false)) true A (ZB B t)=B:=by simp [ZX,ZB]
@[go_sem ↓, go_sem] theorem Zl1 {A:Prop} {t B} :ZX (.p (.bool false)) false (ZB A t) B=A:=by simp [ZX,ZB]
@[go_sem ↓, go_sem] theorem ZkQ {b} {B:Prop} {t A} :ZX (.tup []) b A (ZB B t)=B:=by simp [ZX,ZB]
theorem Z9 {c:Bool} {A B:Prop} {t t'} (h1:c=true->A) (h2:c=false->B):Wq (.p (.bool c)) (ZB A t) (ZB B t'):=⟨h1,h2⟩
theorem ZR {c:Bool} {A B:Prop} {t t'} (h1:c=true->A) (h2:c=false->B):ZX (.p (.bool c)) true (ZB A t) (ZB B t'):=⟨h1,fun h=>h2 (by simpa using h)⟩
theorem ZS {c:Bool} {A B:Prop} {t t'} (h1:c=true->B) (h2:c=false->A):ZX (.p (.bool c)) false (ZB A t) (ZB B t'):=⟨h2,fun h=>h1 (by simpa using h)⟩
class Dc (c:Bool) (p q:outParam Prop):Prop where
 t:c=true->p
 f:c=false->q
instance dcD {p : Prop} [Decidable p] : Dc (decide p) p (¬p) := ⟨of_decide_eq_true, of_decide_eq_false⟩
instance (priority := low) dcB {c : Bool} : Dc c (c = true) (c = false) := ⟨id, id⟩
theorem cD {c:Bool} {A B p q:Prop} {t t'} [d:Dc c p q] (h1:p->A) (h2:q->B):Wq (.p (.bool c)) (ZB A t) (ZB B t'):=Z9 (fun h=>h1 (d.t h)) (fun h=>h2 (d.f h))
theorem gT {c:Bool} {A B p q:Prop} {t t'} [d:Dc c p q] (h1:p->A) (h2:q->B):ZX (.p (.bool c)) true (ZB A t) (ZB B t'):=ZR (fun h=>h1 (d.t h)) (fun h=>h2 (d.f h))
theorem gF {c:Bool} {A B p q:Prop} {t t'} [d:Dc c p q] (h1:p->B) (h2:q->A):ZX (.p (.bool c)) false (ZB A t) (ZB B t'):=ZS (fun h=>h1 (d.t h)) (fun h=>h2 (d.f h))
@[go_sem] theorem Zvw {p:Prop} [Decidable p]:(!decide p)=decide (¬p):=by simp
end ops
attribute [congr] Zcl ZaE Zai J4 Zal JU
section vals
variable {P : Program} {H : List Obj} {k : IntKind} {t u : TypeId}
@[go_sem] theorem Ztk {a b} :X4 P .add t (.p (.int k a)) (.p (.int k b))=some (.int k (k.wrap (a+b))):=by simp [X4,UY]
@[go_sem] theorem Zs0 {a b} :X4 P .sub t (.p (.int k a)) (.p (.int k b))=some (.int k (k.wrap (a-b))):=by simp [X4,UY]
@[go_sem] theorem ZgL {a b} :X4 P .mul t (.p (.int k a)) (.p (.int k b))=some (.int k (k.wrap (a*b))):=by simp [X4,UY]
@[go_sem] theorem Zgj {a b} (h:b≠0):X4 P .quo t (.p (.int k a)) (.p (.int k b))=some (.int k (k.wrap (a.tdiv b))):=by simp [X4,UY,h]
@[go_sem] theorem ZgJ {a b} (h:b≠0):X4 P .rem t (.p (.int k a)) (.p (.int k b))=some (.int k (a.tmod b)):=by simp [X4,UY,h]
@[go_sem] theorem ZsN {a b} :X4 P .and t (.p (.int k a)) (.p (.int k b))=some (.int k (k.wrap ((BitVec.ofInt k.bits a&&&BitVec.ofInt k.bits b).toNat:Int))):=by simp [X4,UY]
@[go_sem] theorem ZcW {a b} :X4 P .or t (.p (.int k a)) (.p (.int k b))=some (.int k (k.wrap ((BitVec.ofInt k.bits a|||BitVec.ofInt k.bits b).toNat:Int))):=by simp [X4,UY]
@[go_sem] theorem KQ {a b} :X4 P .andNot t (.p (.int k a)) (.p (.int k b))=some (.int k (k.wrap ((BitVec.ofInt k.bits a&&& ~~~(BitVec.ofInt k.bits b)).toNat:Int))):=by simp [X4,UY]
@[go_sem] theorem ZtV {a b} :X4 P .eql t (.p (.int k a)) (.p (.int k b))=some (.bool (decide (a=b))):=by simp [X4,UY]
@[go_sem] theorem ZtA {a b} :X4 P .neq t (.p (.int k a)) (.p (.int k b))=some (.bool (decide (¬a=b))):=by simp [X4,UY]
@[go_sem] theorem ZtP {a b} :X4 P .lss t (.p (.int k a)) (.p (.int k b))=some (.bool (decide (a<b))):=by simp [X4,UY]
@[go_sem] theorem Zs6 {a b} :X4 P .leq t (.p (.int k a)) (.p (.int k b))=some (.bool (decide (a<=b))):=by simp [X4,UY]
@[go_sem] theorem ZsS {a b} :X4 P .gtr t (.p (.int k a)) (.p (.int k b))=some (.bool (decide (b<a))):=by simp [X4,UY]
@[go_sem] theorem ZrO {a b} :X4 P .geq t (.p (.int k a)) (.p (.int k b))=some (.bool (decide (b<=a))):=by simp [X4,UY]
@[go_sem] theorem ZgK {a b k'} (h:0<=b):X4 P .shl t (.p (.int k a)) (.p (.int k' b))=some (.int k (k.wrap (a*2^(min b.toNat k.bits)))):=by simp [X4,UY,show ¬b<0 by omega]
@[go_sem] theorem Zgb {a b k'} (h:0<=b):X4 P .shr t (.p (.int k a)) (.p (.int k' b))=some (.int k (a.fdiv (2^(min b.toNat k.bits)))):=by simp [X4,UY,show ¬b<0 by omega]
@[go_sem] theorem Zs7 {op a b} :X4 P op t (.p (.str a)) (.p (.str b))=ZhC op a b:=Eq.trans rfl rfl
@[go_sem] theorem ZtR {a b} :ZhC .eql a b=some (.bool (decide (a=b))):=Eq.trans rfl rfl
@[go_sem] theorem Zst {a b} :ZhC .neq a b=some (.bool (decide (¬a=b))):=by simp [ZhC]
@[go_sem] theorem Zhv {a b} (h:a.length+b.length<=9223372036854775807):ZhC .add a b=some (.str (a++b)):=by simp [ZhC,h]
def ZxN (op:BinOp) (u:Option TypeDesc) (a b:Bool):Option PV:=match op,u with
  | .eql,some .bool=>some (.bool (a==b))
  | .neq,some .bool=>some (.bool (!(a==b)))
  | _,_=>none
end vals
attribute [irreducible] pst mst hst bst
end Go.AM
namespace Go.AM
open Go.RowKit
section vals
variable {P : Program} {H : List Obj} {k : IntKind} {t u : TypeId}
@[go_sem] theorem Znj {op a b} :X4 P op t (.p (.bool a)) (.p (.bool b))=ZxN op (P.underlying t) a b:=Eq.trans rfl rfl
@[go_sem] theorem ZsF {a b} :ZxN .neq (some .bool) a b=some (.bool (!(a==b))):=Eq.trans rfl rfl
def ZvT (g:Bool) (op:BinOp) (r:Option Bool):Option PV:=if g then none else match op with
 | .eql=>r.map .bool
 | .neq=>r.map fun r=> .bool (!r)
 | _=>none
@[go_sem] theorem Zt5 {op a b} :X4 P op t (.p (.agg a)) (.p (.agg b))=ZvT (P.eqGuardType P.depth t) op (UZ P 9 t (.agg a) (.agg b)):=Eq.trans rfl rfl
@[go_sem] theorem Zsu {b} :ZvT false .eql (some b)=some (.bool b):=Eq.trans rfl rfl
@[go_sem] theorem Zr2 {b} :ZvT false .neq (some b)=some (.bool (!b)):=Eq.trans rfl rfl
def Zh6 (P:Program) (d:Nat) (t:TypeId) (D:Option TypeDesc) (x y:PV):Option Bool:=match D,x,y with
  | some .bool,.bool a,.bool b=>some (a==b)
  | some (.int _),.int k a,.int k' b=>if k=k' then some (decide (a=b)) else none
  | some .string,.str a,.str b=>some (decide (a=b))
  | some (.struct fs),.agg a,.agg b=>if P.stoodInHeld t then none else ZaJ (UZ P d) P fs.toList a b
  | some (.array n e),.agg a,.agg b=>match tsz P e with | some m=>Zk2 (UZ P d e) P e m n 0 a b | none=>none
  | _,_,_=>none
@[go_sem] theorem Zoz {d x y} :UZ P (d+1) t x y=Zh6 P d t (P.underlying t) x y:=Eq.trans rfl rfl
@[go_sem] theorem ZrF {d a b} :Zh6 P d t (some .bool) (.bool a) (.bool b)=some (a==b):=Eq.trans rfl rfl
@[go_sem] theorem ZsM {d k0 a b} :Zh6 P d t (some (.int k0)) (.int k a) (.int k b)=some (decide (a=b)):=by simp [Zh6]
theorem UT {d fs a b} (h:P.stoodInHeld t=false):Zh6 P d t (some (.struct fs)) (.agg a) (.agg b)=ZaJ (UZ P d) P fs.toList a b:=by simp [Zh6,h]
def Zh7 (x y:Option Bool):Option Bool:=x.bind fun p=>y.map fun q=>p&&q
@[go_sem] theorem ZnD {p q} :Zh7 (some p) (some q)=some (p&&q):=Eq.trans rfl rfl
def eqP (f:PV->PV->Option Bool) (x y:Option PV):Option Bool:=x.bind fun x=>y.bind fun y=>f x y
@[go_sem] theorem ZsT {f x y} :eqP f (some x) (some y)=f x y:=Eq.trans rfl rfl
@[go_sem] theorem Zbu {f a b} :ZaJ f P [] a b=some true:=Eq.trans rfl rfl
@[go_sem] theorem J3 {f fi r a b} : ZaJ f P (fi :: r) a b = if fi.name = "_" then ZaJ f P r a b else Zh7 (eqP (f fi.type) (apart P fi.type a fi.offset) (apart P fi.type b fi.offset)) (ZaJ f P r a b) := by
 simp only [ZaJ]
 split
 ·rfl
 ·cases apart P fi.type a fi.offset<;>cases apart P fi.type b fi.offset<;>simp [eqP,Zh7]
  rename_i x y
  cases f fi.type x y<;>cases ZaJ f P r a b<;>rfl
def ZxI (g:Option Bool) (s:Option Nat) (cs:List PV) (off:Nat):Option PV:=match g,s with
 | some true,some n=>if off+n<=cs.length then some (.agg ((cs.drop off).take n)) else none
 | some false,_=>cs[off]?
 | _,_=>none
@[go_sem] theorem Ztq {cs off} :apart P t cs off=ZxI (XO P t) (tsz P t) cs off:=Eq.trans rfl rfl
@[go_sem] theorem Zsk {s cs off} :ZxI (some false) s cs off=cs[off]? :=Eq.trans rfl rfl
def Zbl (g:Option Bool) (s:Option Nat) (H:List Obj) (x:V):Option V:=match g,s with
 | some true,some n=>(YQ H x n).map mkA
 | some false,_=>match YQ H x 1 with
  | some (c::_)=>some c
  | _=>none
 | _,_=>none
def hdO (x:Option (List V)):Option V:=match x with | some (c::_)=>some c | _=>none
@[go_sem] theorem ZrU {c l} :hdO (some (c::l))=some c:=Eq.trans rfl rfl
@[go_sem] theorem Ztc {x} :VD P H t x=Zbl (XO P t) (tsz P t) H x:=Eq.trans rfl rfl
@[go_sem] theorem Zlv {s x} :Zbl (some false) s H x=hdO (YQ H x 1):=by simp only [Zbl,hdO]
@[go_sem] theorem ZlC {n x} :Zbl (some true) (some n) H x=(YQ H x n).map mkA:=Eq.trans rfl rfl
@[go_sem] theorem Zm3 {x j n} :YQ H (.lp x j) n=if j+n<=x.cells.length then some (((x.cells.drop j).take n).map .p) else none:=Eq.trans rfl rfl
def Zif (ob:Obj) (off n:Nat):Option (List V):=match ob with | .cells cs=>if off+n<=cs.length then some ((cs.drop off).take n) else none | _=>none
@[go_sem] theorem ZlG {o off n} :YQ H (.ptr o off) n=Zif (oat H o) off n:=Eq.trans rfl rfl
@[go_sem] theorem ZiF {cs off n} :Zif (.cells cs) off n=if off+n<=cs.length then some ((cs.drop off).take n) else none:=Eq.trans rfl rfl
def Zil (ob:Obj) (i j tot n:Nat):Option (List V):=match ob with
 | .elems _ xs=>if xs.length=tot/\i<xs.length/\j+n<=(elt xs i).cells.length then some ((((elt xs i).cells.drop j).take n).map .p) else none
 | _=>none
@[go_sem] theorem Zqz {o i j tot n} :YQ H (.ep o i j tot) n=Zil (oat H o) i j tot n:=Eq.trans rfl rfl
@[go_sem] theorem Zik {S xs i j tot n} :Zil (.elems S xs) i j tot n=if xs.length=tot/\i<xs.length/\j+n<=(elt xs i).cells.length then some ((((elt xs i).cells.drop j).take n).map .p) else none:=Eq.trans rfl rfl
@[go_sem] theorem Zp0 {cs} :(PV.agg cs).cells=cs:=Eq.trans rfl rfl
@[go_sem] theorem ZnP {n} :(PV.int k n).cells= [.int k n]:=Eq.trans rfl rfl
@[go_sem] theorem Zlg {b} :(PV.bool b).cells= [.bool b]:=Eq.trans rfl rfl
@[go_sem] theorem Zn9 {s} :(PV.str s).cells= [.str s]:=Eq.trans rfl rfl
@[go_sem] theorem Zk6 {c xs} :(PV.list c xs).cells= [.list c xs]:=Eq.trans rfl rfl
@[go_sem] theorem Zwd {n} :(PV.int k n).one=true:=Eq.trans rfl rfl
@[go_sem] theorem ZtL {b} :(PV.bool b).one=true:=Eq.trans rfl rfl
@[go_sem] theorem ZvB {s} :(PV.str s).one=true:=Eq.trans rfl rfl
@[go_sem] theorem Zsd {c xs} :(PV.list c xs).one=true:=Eq.trans rfl rfl
@[go_sem] theorem Zxz {cs} :mkA cs=match U8 cs with | some ps=> .p (.agg ps) | none=> .agg cs:=Eq.trans rfl rfl
@[go_sem] theorem Zsv : U8 []=some []:=Eq.trans rfl rfl
@[go_sem] theorem ZnC {x r} :U8 (.p x::r)=(U8 r).map (x:: ·):=by simp only [U8]
def Q8 (n:Option Nat) (a:Bool) (x:V):Option V:=match n with | some n=>if a then some (QF n x) else none | none=>none
@[go_sem] theorem Zq1 {s f x} :WW P H s f x=Q8 (Z7 P s f) (Ya H x) x:=Eq.trans rfl rfl
@[go_sem] theorem ZiJ {n x} :Q8 (some n) true x=some (QF n x):=Eq.trans rfl rfl
@[go_sem] theorem Zuf {n x j} :QF n (.lp x j)= .lp x (j+n):=Eq.trans rfl rfl
@[go_sem] theorem Zry {n o off} :QF n (.ptr o off)= .ptr o (off+n):=Eq.trans rfl rfl
@[go_sem] theorem ZsA {n o i j tot} :QF n (.ep o i j tot)= .ep o i (j+n) tot:=Eq.trans rfl rfl
def ZdI (ob:Obj):Bool:=match ob with | .cells _=>true | _=>false
@[go_sem] theorem ZfX {cs} :ZdI (.cells cs)=true:=Eq.trans rfl rfl
def Ze6 (ob:Obj) (tot:Nat):Bool:=match ob with | .elems _ xs=>decide (xs.length=tot) | _=>false
@[go_sem] theorem Zgh {S xs tot} :Ze6 (.elems S xs) tot=decide (xs.length=tot):=Eq.trans rfl rfl
def Zra (ob:Obj) (tot:Nat):Bool:=match ob with | .elems _ xs=>decide (xs.length=tot) | .cells _=>true | _=>false
@[go_sem] theorem Zjg {S xs tot} :Zra (.elems S xs) tot=decide (xs.length=tot):=Eq.trans rfl rfl
@[go_sem] theorem Zr5 {x j} :Ya H (.lp x j)=true:=Eq.trans rfl rfl
@[go_sem] theorem Zlo {o off} :Ya H (.ptr o off)=ZdI (oat H o):=Eq.trans rfl rfl
@[go_sem] theorem Zr6 {o i j tot} :Ya H (.ep o i j tot)=Ze6 (oat H o) tot:=Eq.trans rfl rfl
def WD (e:Option (Option Nat×Nat)) (H:List Obj) (x i:V):Option V:=match e,i with
 | some (none,S),.p (.int _ n)=>match x with
  | .p (.list _ xs)=>if 0<=n/\n<xs.length then (if (elt xs n.toNat).cells.length=S then some (.lp (elt xs n.toNat) 0) else none) else none
  | .sl o off len tot=>match oat H o with
   | .elems S' xs=>if xs.length=tot/\S'=S then (if 0<=n/\n<len then some (.ep o (off+n.toNat) 0 tot) else none) else none
   | .cells _=>if S=1/\off=0/\len=tot/\0<=n/\n<len then some (.ptr o n.toNat) else none
   | _=>none
  | _=>none
 | some (some k,S),.p (.int _ n)=>if 0<=n/\n<k then (if Ya H x then some (QF (n.toNat*S) x) else none) else none
 | _,_=>none
@[go_sem] theorem ZqG {x i} :Wv P H t x i=WD (We P t) H x i:=Eq.trans rfl rfl
theorem J7 {S c xs n} (h0:0<=n) (h1:n<(List.length xs:Int)):WD (some (none,S)) H (.p (.list c xs)) (.p (.int k n))=if (elt xs n.toNat).cells.length=S then some (.lp (elt xs n.toNat) 0) else none:=by
 simp only [WD];rw [if_pos ⟨h0,h1⟩]
def nth {α:Type} [Inhabited α] (l:List α) (i:Nat):α:=l.getD i default
theorem XY {α:Type} [Inhabited α] {f:α->PV} {l:List α} {i:Nat} (h:i<l.length):elt (l.map f) i=f (nth l i):=by
 simp [elt,nth,h]
theorem Zf {α:Type} [Inhabited α] {l:List α} {i:Nat} (h:i<l.length):nth l i=l[i]:=by simp [nth,h]
@[go_sem] theorem Zjn {α:Type} [Inhabited α] {f:α->PV} {l:List α} {S c n} (h0:0<=n) (h1:n<(l.length:Int)) :
  WD (some (none,S)) H (.p (.list c (l.map f))) (.p (.int k n))=if (f (nth l n.toNat)).cells.length=S then some (.lp (f (nth l n.toNat)) 0) else none:=by
 rw [J7 h0 (by simpa using h1),XY (by omega)]
def ZeJ (ob:Obj) (S o off len tot:Nat) (n:Int):Option V:=match ob with
 | .elems S' xs=>if xs.length=tot/\S'=S then (if 0<=n/\n<len then some (.ep o (off+n.toNat) 0 tot) else none) else none
 | .cells _=>if S=1/\off=0/\len=tot/\0<=n/\n<len then some (.ptr o n.toNat) else none
 | _=>none
@[go_sem] theorem Zlm {S o off len tot n} :WD (some (none,S)) H (.sl o off len tot) (.p (.int k n))=ZeJ (oat H o) S o off len tot n:=Eq.trans rfl rfl
@[go_sem] theorem ZmZ {S xs o off} {len tot:Nat} {n:Int} (h0:0<=n) (h1:n<(len:Int)) (ht:xs.length=tot):ZeJ (.elems S xs) S o off len tot n=some (.ep o (off+n.toNat) 0 tot):=by
 simp only [ZeJ];simp [ht,h0,h1]
@[go_sem] theorem Zi1 {n} {m S:Nat} {x} (h0:0<=n) (h1:n<(m:Int)):WD (some (some m,S)) H x (.p (.int k n))=Q8 (some (n.toNat*S)) (Ya H x) x:=by
 simp only [WD,Q8];rw [if_pos ⟨h0,h1⟩]
def Zgf (H:List Obj) (D:Option TypeDesc) (x:V):Option PV:=match D,x with
 | some (.slice _),.p (.list _ xs)=>some (.int .i64 xs.length)
 | some (.slice _),.sl o _ len tot=>match oat H o with
  | .elems _ xs=>if xs.length=tot then some (.int .i64 len) else none
  | _=>none
 | some .string,.p (.str s)=>some (.int .i64 s.length)
 | some (.array n _),_=>some (.int .i64 n)
 | _,_=>none
@[go_sem] theorem Zuq {x} :Zo1 P H t x=Zgf H (P.underlying t) x:=Eq.trans rfl rfl
@[go_sem] theorem ZlA {e c xs} :Zgf H (some (.slice e)) (.p (.list c xs))=some (.int .i64 (List.length xs)):=Eq.trans rfl rfl
def Zw3 (ob:Obj) (len tot:Nat):Option PV:=match ob with | .elems _ xs=>if xs.length=tot then some (.int .i64 len) else none | _=>none
@[go_sem] theorem ZsI {e o off len tot} :Zgf H (some (.slice e)) (.sl o off len tot)=Zw3 (oat H o) len tot:=Eq.trans rfl rfl
@[go_sem] theorem Zlu {S xs len tot} :Zw3 (.elems S xs) len tot=if xs.length=tot then some (.int .i64 len) else none:=Eq.trans rfl rfl
@[go_sem] theorem Zqw {s} :Zgf H (some .string) (.p (.str s))=some (.int .i64 (List.length s)):=Eq.trans rfl rfl
@[go_sem] theorem Zva {b} :aun .not (.p (.bool b))=some (.bool (!b)):=Eq.trans rfl rfl
@[go_sem] theorem ZvS {n} :aun .neg (.p (.int k n))=some (.int k (k.wrap (0-n))):=Eq.trans rfl rfl
def ZiC (D E:Option TypeDesc) (x:V):Option PV:=match D,E,x with
 | some _,some (.int k),.p (.int _ n)=>some (.int k (k.wrap n))
 | some (.int _),some .string,.p (.int _ n)=>if 0<=n/\n<128 then some (.str [UInt8.ofNat n.toNat]) else none
 | some .string,some .string,.p (.str b)=>some (.str b)
 | _,_,_=>none
@[go_sem] theorem ZsJ {s x} :ZdA P s t x=ZiC (P.underlying s) (P.underlying t) x:=Eq.trans rfl rfl
@[go_sem] theorem Zlc {D k' n} :ZiC (some D) (some (.int k)) (.p (.int k' n))=some (.int k (k.wrap n)):=by cases D<;>rfl
def K9 (E:Option TypeDesc) (H:List Obj) (x:V):Option PV:=match E,x with
  | some (.int .u8),.p (.list _ xs)=>(Xo xs).map .str
  | some (.int .u8),.sl o off len tot=>match oat H o with
   | .elems _ xs=>if xs.length=tot/\off+len<=tot then (Xo ((xs.take (off+len)).drop off)).map .str else none
   | _=>none
  | _,_=>none
def Zay (P:Program) (H:List Obj) (D E:Option TypeDesc) (x:V):Option PV:=match D,E with
 | some (.slice e),some .string=>K9 (P.underlying e) H x
 | _,_=>none
@[go_sem] theorem Zng {s x} :Qh P H s t x=Zay P H (P.underlying s) (P.underlying t) x:=Eq.trans rfl rfl
@[go_sem] theorem ZjC {E x} :Zay P H (some (.int k)) E x=none:=Eq.trans rfl rfl
@[go_sem] theorem ZgQ {e x} :Zay P H (some (.slice e)) (some .string) x=K9 (P.underlying e) H x:=Eq.trans rfl rfl
def ZiG (ob:Obj) (off len tot:Nat):Option PV:=match ob with | .elems _ xs=>if xs.length=tot/\off+len<=tot then (Xo ((xs.take (off+len)).drop off)).map .str else none | _=>none
@[go_sem] theorem ZkY {o off len tot} :K9 (some (.int .u8)) H (.sl o off len tot)=ZiG (oat H o) off len tot:=Eq.trans rfl rfl
@[go_sem] theorem Zii {S xs off len tot} :ZiG (.elems S xs) off len tot=if xs.length=tot/\off+len<=tot then (Xo ((xs.take (off+len)).drop off)).map .str else none:=Eq.trans rfl rfl
@[go_sem] theorem Zku : Xo []=some []:=Eq.trans rfl rfl
@[go_sem] theorem Zir {n r} :Xo (.int .u8 n::r)=(Xo r).map (UInt8.ofNat n.toNat:: ·):=by simp [Xo]
@[go_sem] theorem Zv2 {a b:Int} (h:0<=a):a.tdiv b=a / b:=Int.tdiv_eq_ediv_of_nonneg h
@[go_sem] theorem Zu9 {a b:Int} (h:0<=a):a.tmod b=a%b:=Int.tmod_eq_emod_of_nonneg h
@[go_sem] theorem Zyj {cs} :vc H (.p (.agg cs))=if cs.all (·.one)=true then some (cs.map .p) else none:=by simp only [vc]
@[go_sem] theorem Zyv {n} :vc H (.p (.int k n))=some [.p (.int k n)]:=Eq.trans rfl rfl
@[go_sem] theorem ZvP {n} :vc H (.p (.bool n))=some [.p (.bool n)]:=Eq.trans rfl rfl
@[go_sem] theorem Zy7 {n} :vc H (.p (.str n))=some [.p (.str n)]:=Eq.trans rfl rfl
@[go_sem] theorem ZuR {c xs} :vc H (.p (.list c xs))=some [.p (.list c xs)]:=Eq.trans rfl rfl
@[go_sem] theorem ZzA {o off len tot} :vc H (.sl o off len tot)=if Zra (oat H o) tot=true then some [.sl o off len tot] else none:=Eq.trans rfl rfl
@[go_sem] theorem Zul {α:Type} {n} {cs:List α} :spl ([]:List α) n cs= []:=by cases cs<;>cases n<;>simp [spl]
@[go_sem] theorem Ztx {α:Type} {x c:α} {l cs} :spl (x::l) 0 (c::cs)=c::spl l 0 cs:=by simp [spl]
@[go_sem] theorem ZqI {α:Type} {x:α} {l} :spl (x::l) 0 []=x::l:=by simp [spl]
@[go_sem] theorem ZtD {α:Type} {x:α} {l cs n} :spl (x::l) (n+1) cs=x::spl l n cs:=by simp [spl]
def ZhW (H:List Obj) (o:Nat) (ob:Obj) (off n:Nat) (cs:List V):Option (List Obj):=match ob with
 | .cells old=>if off+n<=old.length then some (ost H o (.cells (spl old off cs))) else none
 | _=>none
@[go_sem] theorem ZlI {n o off cs} :VS H n (.ptr o off) cs=if cs.length=n then ZhW H o (oat H o) off n cs else none:=Eq.trans rfl rfl
@[go_sem] theorem ZiH {o old off n cs} :ZhW H o (.cells old) off n cs=if off+n<=old.length then some (ost H o (.cells (spl old off cs))) else none:=Eq.trans rfl rfl
def Zc1 (H:List Obj) (o:Nat) (ob:Obj) (i j tot n:Nat) (ps:Option (List PV)):Option (List Obj):=match ob,ps with
 | .elems S xs,some ps=>if xs.length=tot/\i<xs.length/\j+n<=(elt xs i).cells.length/\ps.all (·.one)=true/\(elt xs i).cells.all (·.one)=true then
   some (ost H o (.elems S (xs.set i (mkE (elt xs i) (spl (elt xs i).cells j ps))))) else none
 | _,_=>none
@[go_sem] theorem ZpA {n o i j tot cs} :VS H n (.ep o i j tot) cs=if cs.length=n then Zc1 H o (oat H o) i j tot n (U8 cs) else none:=Eq.trans rfl rfl
@[go_sem] theorem ZlR {α:Type} [Inhabited α] {f:α->PV} {l:List α} {o S i j tot n ps} (ht:l.length=tot) (hi:i<l.length):Zc1 H o (.elems S (l.map f)) i j tot n (some ps) =
  if j+n<=(f (nth l i)).cells.length/\ps.all (·.one)=true/\(f (nth l i)).cells.all (·.one)=true then
   some (ost H o (.elems S ((l.map f).set i (mkE (f (nth l i)) (spl (f (nth l i)).cells j ps))))) else none:=by
 simp only [Zc1,XY hi]
 have h1:(l.map f).length=tot:=by simpa using ht
 have h2:i<(l.map f).length:=by simpa using hi
 simp only [h1,h2,true_and];subst ht;simp [hi]
@[go_sem] theorem Zui {a cs} :mkE (.agg a) cs= .agg cs:=Eq.trans rfl rfl
@[go_sem] theorem Zu8 {n c l} :mkE (.int k n) (c::l)=c:=Eq.trans rfl rfl
@[go_sem] theorem ZrV {n c l} :mkE (.bool n) (c::l)=c:=Eq.trans rfl rfl
@[go_sem] theorem ZrE {l} :JY P H t l=match Xb P t,tpl P t with
 | some zs,some pl=>(UQ H pl (zs.map .p) l).map mkA
 | _,_=>none:=Eq.trans rfl rfl
@[go_sem] theorem Zpo {pl cs} :UQ H pl cs []=some cs:=by simp [UQ]
def Ziu (H:List Obj) (pl:Nat->Option (Nat×Nat)) (cs:List V) (r:List (Nat×V)) (q:Option (Nat×Nat)) (vs:Option (List V)):Option (List V):=match q,vs with
 | some (off,sz),some vs=>if vs.length=sz/\off+sz<=cs.length then UQ H pl (spl cs off vs) r else none
 | _,_=>none
@[go_sem] theorem ZlD {pl cs i v r} :UQ H pl cs ((i,v)::r)=Ziu H pl cs r (pl i) (vc H v):=Eq.trans rfl rfl
@[go_sem] theorem Zi0 {pl cs off sz vs r} :Ziu H pl cs r (some (off,sz)) (some vs)=if vs.length=sz/\off+sz<=cs.length then UQ H pl (spl cs off vs) r else none:=Eq.trans rfl rfl
@[go_sem] theorem ZyJ {l i} :plL l i=l[i]? :=Eq.trans rfl rfl
end vals
end Go.AM
namespace Go.AM
open Go.RowKit
section
variable {P : Program} {H : List Obj} {k : IntKind} {t u : TypeId} {fr : List V}
def ZkD (S:Option Nat) (H:List Obj) (n:Nat) (l:List (Nat×V)):Option (V×List Obj):=match S with
 | some S=>if n=l.length/\n*S<=16777216/\0<S then (U1 H S 0 l).map fun xs=>(.sl H.length 0 n n,H++ [.elems S xs]) else none
 | none=>none
@[go_sem] theorem ZsQ {n l} :Wd P (.buildSlice t n (List.toArray l)) fr H=ZkD (Jd P t) H n (l.map fun x=>(x.1,ev fr x.2)):=by
 simp only [Wd,Jd,ZkD]
 cases P.underlying t with
 | none=>rfl
 | some D =>
  cases D<;>try rfl
  rename_i e;simp only []
  cases (P.info? e).bind (·.zero) with
  | none=>rfl
  | some z =>
   simp only [ZkT]
   cases We P t with
   | none=>rfl
   | some q=>obtain ⟨a,b⟩:=q;cases a<;>rfl
@[go_sem] theorem ZlB {S n l} :ZkD (some S) H n l=if n=l.length/\n*S<=16777216/\0<S then (U1 H S 0 l).map fun xs=>(.sl H.length 0 n n,H++ [.elems S xs]) else none:=Eq.trans rfl rfl
@[go_sem] theorem Zsx {S n} :U1 H S n []=some []:=by simp [U1]
@[go_sem] theorem Zne {S n i x r} :U1 H S n ((i,.p x)::r)=if i=n then if x.cells.length=S/\x.cells.all (·.one)=true then (U1 H S (n+1) r).map (x:: ·) else none else none:=by simp only [U1,pvo]
@[go_sem] theorem Zwe {S n i f r} :U1 H S n ((i,.fn (.func f) [] [])::r)=if i=n then if 1=S then (U1 H S (n+1) r).map (.fn f:: ·) else none else none:=by simp [U1,pvo,PV.cells,PV.one]
def ZbR (P:Program) (t:TypeId):Option (Nat×Nat):=match P.underlying t with
 | some (.slice e)=>match tsz P e,VL P e,(P.info? e).map (·.bytes) with
  | some S,some z,some by'=>if 0<S/\z.cells.length=S/\z.cells.all (·.one)=true/\by'≠0 then some (S,by') else none
  | _,_,_=>none
 | _=>none
theorem Zbj {S by'} (h:ZbR P t=some (S,by')): ∃e z,P.underlying t=some (.slice e)/\tsz P e=some S/\VL P e=some z/\(P.info? e).map (·.bytes)=some by'/\0<S/\z.cells.length=S/\z.cells.all (·.one)=true/\by'≠0:=by
 unfold ZbR at h
 split at h
 ·rename_i e hu
  split at h
  ·rename_i S' z b h1 h2 h3
   split at h
   ·rename_i hc;simp at h;obtain ⟨rfl,rfl⟩:=h;exact ⟨e,z,hu,h1,h2,h3,hc⟩
   ·cases h
  ·cases h
 ·cases h
def YL (D:Option TypeDesc) (H:List Obj) (y:V):Option (List PV):=match D,y with
 | some (.slice _),.p (.list _ ys)=>some ys
 | some (.slice _),.sl o off len tot=>match oat H o with
  | .elems _ xs=>if xs.length=tot/\off+len<=tot then some ((xs.take (off+len)).drop off) else none
  | _=>none
 | some .string,.p (.str s)=>some (s.map fun b=> .int .u8 b.toNat)
 | _,_=>none
def Zo9 (ob:Obj) (off len tot:Nat):Option (List PV):=match ob with | .elems _ xs=>if xs.length=tot/\off+len<=tot then some ((xs.take (off+len)).drop off) else none | _=>none
@[go_sem] theorem Zk8 {e c ys} :YL (some (.slice e)) H (.p (.list c ys))=some ys:=Eq.trans rfl rfl
@[go_sem] theorem Zti {e o off len tot} :YL (some (.slice e)) H (.sl o off len tot)=Zo9 (oat H o) off len tot:=Eq.trans rfl rfl
theorem Za6 {S xs n} (h:List.length xs=n):Zo9 (.elems S xs) 0 n n=some xs:=by subst h;simp [Zo9]
def ZjS (H:List Obj) (F:Option (Nat×Nat)) (ys:Option (List PV)):Option (V×List Obj):=match F,ys with
 | some (S,by'),some ys=>if okE S ys=true/\ys.length*by'<=140737488355328/\ys.length<=140737488355328 then some (.sl H.length 0 ys.length ys.length,H++ [.elems S ys]) else none
 | _,_=>none
def Qp (H:List Obj) (F:Option (Nat×Nat)) (ob:Obj) (o n:Nat) (ys:Option (List PV)):Option (V×List Obj):=match F,ob,ys with
 | some (S,by'),.elems S' xs,some ys=>if S'=S/\xs.length=n/\okE S ys=true/\(n+ys.length)*by'<=140737488355328/\n+ys.length<=140737488355328 then
   some (.sl o 0 (n+ys.length) (n+ys.length),ost H o (.elems S (xs++ys))) else none
 | _,_,_=>none
theorem Ze8 {z x y ys e S by'} (h1:P.underlying t=some (.slice e)) (h2:tsz P e=some S) (h3:VL P e=some z) (h4:(P.info? e).map (·.bytes)=some by') (h5:ZfK P H u y=some ys) (h6:0<S/\z.cells.length=S/\z.cells.all (·.one)=true/\by'≠0) :
  VZ P H t u x y=if okE S ys=true then (match x with
    | .p (.list cl xs)=>if cl=true/\okE S xs=true/\(xs= []\/0<ys.length)/\(xs.length+ys.length)*by'<=140737488355328/\xs.length+ys.length<=140737488355328 then
      some (.sl H.length 0 (xs.length+ys.length) (xs.length+ys.length),H++ [.elems S (xs++ys)]) else none
    | .sl o off len tot=>match oat H o with
     | .elems S' xs=>if S'=S/\off=0/\len=tot/\xs.length=tot/\(tot+ys.length)*by'<=140737488355328/\tot+ys.length<=140737488355328 then
       some (.sl o 0 (tot+ys.length) (tot+ys.length),ost H o (.elems S (xs++ys))) else none
     | _=>none
    | _=>none) else none:=by
 simp only [VZ,h1,h2,h3,h4,h5]
 by_cases hc:okE S ys=true
 ·rw [if_pos hc,if_pos ⟨h6.1,h6.2.1,h6.2.2.1,h6.2.2.2,hc⟩]
  cases x with
  | p x=>cases x<;>rfl
  | _=>rfl
 ·rw [if_neg hc,if_neg (fun h=>hc h.2.2.2.2)]
theorem Q9 {y F} (hF:ZbR P t=some F):VZ P H t u (.p (.list true [])) y=ZjS H (some F) (YL (P.underlying u) H y):=by
 obtain ⟨S,by'⟩:=F;obtain ⟨e,z,h1,h2,h3,h4,h6⟩:=Zbj hF;have e1:YL (P.underlying u) H y=ZfK P H u y:=Eq.trans rfl rfl;rw [e1]
 cases h5:ZfK P H u y with
 | none=>simp [VZ,h1,h2,h3,h4,h5,ZjS]
 | some ys =>
  rw [Ze8 h1 h2 h3 h4 h5 h6];simp only [ZjS,okE]
  by_cases hc:ys.all (Zrx S)=true
  ·simp [hc]
  ·simp [hc]
theorem XQ {y F o n} (hF:ZbR P t=some F):VZ P H t u (.sl o 0 n n) y=Qp H (some F) (oat H o) o n (YL (P.underlying u) H y):=by
 obtain ⟨S,by'⟩:=F;obtain ⟨e,z,h1,h2,h3,h4,h6⟩:=Zbj hF;have e1:YL (P.underlying u) H y=ZfK P H u y:=Eq.trans rfl rfl;rw [e1]
 cases h5:ZfK P H u y with
 | none =>
  simp only [VZ,h1,h2,h3,h4,h5,Qp]
  cases oat H o<;>rfl
 | some ys =>
  rw [Ze8 h1 h2 h3 h4 h5 h6];simp only [Qp]
  cases oat H o with
  | elems S' xs =>
   by_cases hc:okE S ys=true
   ·simp [hc]
   ·simp [hc]
  | cells cs=>simp
  | map es=>simp
  | bld T E r bs=>simp
  | dead=>simp
@[go_sem] theorem ZpT {S b ys} :ZjS H (some (S,b)) (some ys)=if okE S ys=true/\ys.length*b<=140737488355328/\ys.length<=140737488355328 then some (.sl H.length 0 ys.length ys.length,H++ [.elems S ys]) else none:=Eq.trans rfl rfl
theorem Kh {S b xs ys o n} (hn:xs.length=n) (hb:(n+ys.length)*b<=140737488355328) (hb2:n+ys.length<=140737488355328):Qp H (some (S,b)) (.elems S xs) o n (some ys)=if okE S ys=true then some (.sl o 0 (n+ys.length) (n+ys.length),ost H o (.elems S (xs++ys))) else none:=by
 simp only [Qp]
 by_cases hc:okE S ys=true
 ·rw [if_pos ⟨trivial,hn,hc,hb,hb2⟩,if_pos hc]
 ·rw [if_neg (fun h=>hc h.2.2.1),if_neg hc]
@[go_sem] theorem ZtJ {α:Type} {S} {f:α->PV} {l:List α} :Zo9 (.elems S (l.map f)) 0 l.length l.length=some (l.map f):=Za6 (by simp)
@[go_sem] theorem ZtQ {S x} :Zo9 (.elems S [x]) 0 1 1=some [x]:=Za6 (by simp)
@[go_sem] theorem Zrj {α:Type} {S b o x} {f:α->PV} {l:List α} (hb:(l.length+1)*b<=140737488355328) (hb2:l.length+1<=140737488355328):Qp H (some (S,b)) (.elems S (l.map f)) o l.length (some [x])=if okE S [x]=true then some (.sl o 0 (l.length+1) (l.length+1),ost H o (.elems S (l.map f++ [x]))) else none :=
 Kh (by simp) (by simpa using hb) (by simpa using hb2)
@[go_sem] theorem Zl8 {α β:Type} {S b o} {f:α->PV} {g:β->PV} {l:List α} {m:List β} (hb:(l.length+m.length)*b<=140737488355328) (hb2:l.length+m.length<=140737488355328):Qp H (some (S,b)) (.elems S (l.map f)) o l.length (some (m.map g))=if okE S (m.map g)=true then some (.sl o 0 (l.length+m.length) (l.length+m.length),ost H o (.elems S (l.map f++m.map g))) else none:=by
 have:= @Kh H S b (l.map f) (m.map g) o l.length (by simp) (by simpa using hb) (by simpa using hb2);simpa using this
@[go_sem] theorem Zww {S} :okE S []=true:=Eq.trans rfl rfl
@[go_sem] theorem ZtY {S x l} :okE S (x::l)=((x.cells.length==S)&&x.cells.all (·.one)&&okE S l):=by simp [okE,Zrx]
theorem QP {α:Type} {S} {f:α->PV} {l:List α} (h: ∀x,Zrx S (f x)=true):okE S (l.map f)=true:=by simp [okE];intro x _;exact h x
def ZhF (P:Program) (t:TypeId):Option (Nat×Nat×PV):=match P.underlying t with
  | some (.slice e)=>match tsz P e,VL P e,(P.info? e).map (·.bytes) with
   | some S,some z,some by'=>if z.cells.all (·.one)=true/\z.cells.length=S/\0<S then some (S,by',z) else none
   | _,_,_=>none
  | _=>none
end
def Yf : Nat->List Nat->List V->List V
 | _,_,[]=> []
 | i,[],_::l=> .junk::Yf (i+1) [] l
 | i,k::ks,x::l=>if i=k then x::Yf (i+1) ks l else .junk::Yf (i+1) (k::ks) l
def KM : List (Nat×V)->List V->List V
 | [],fr=>fr
 | (i,v)::r,fr=>KM r (pt fr i v)
@[go_sem] theorem Zpi {i ks} :Yf i ks []= []:=by cases ks<;>simp [Yf]
@[go_sem] theorem Zlb {i x l} :Yf i [] (x::l)= .junk::Yf (i+1) [] l:=by simp [Yf]
@[go_sem] theorem Zll {i k ks x l} :Yf i (k::ks) (x::l)=if i=k then x::Yf (i+1) ks l else .junk::Yf (i+1) (k::ks) l:=by simp [Yf]
@[go_sem] theorem ZzU : ((0:Nat):Int)=0:=Eq.trans rfl rfl
@[go_sem] theorem ZAq {n:Nat} :((n+1:Nat):Int)=(n:Int)+1:=Eq.trans rfl rfl
@[go_sem] theorem Zyf {n:Nat} :((n:Int)).toNat=n:=Eq.trans rfl rfl
@[go_sem] theorem Zub {fr} :KM [] fr=fr:=by simp [KM]
@[go_sem] theorem ZoQ {i v r fr} :KM ((i,v)::r) fr=KM r (pt fr i v):=by simp [KM]
@[go_sem] theorem ZuZ {p q:Prop} [Decidable p] [Decidable q]:(decide p&&decide q)=decide (p/\q):=by simp
@[go_sem] theorem ZoN {p q:Prop} [Decidable p] [Decidable q]:(decide p||decide q)=decide (p\/q):=by simp
theorem Zg {P c fr H Q} {I:Type} (ks:List Nat) (sets:I->List (Nat×V)) (hs:I->List Obj) (R:I->Prop) (μ:I->Nat) (i0:I) (hR:R i0) (h0:Weak H.length fr H (KM (sets i0) (Yf 0 ks fr)) (hs i0))
  (round: ∀i,R i->awp [] P c (KM (sets i) (Yf 0 ks fr)) (hs i) (Vq (fun fr' H'=> ∃i',R i'/\μ i'<μ i/\Weak H.length fr' H' (KM (sets i') (Yf 0 ks fr)) (hs i')) Q)):AWP P (.loop c) fr H Q :=
 ZaS R (fun i=>KM (sets i) (Yf 0 ks fr)) hs μ i0 hR h0 fun i hi=>Zc [] _ _ _ _ (round i hi)
theorem ZM {P c fr H Q} (cuts:List Nat) {I:Type} (ks:List Nat) (sets:I->List (Nat×V)) (hs:I->List Obj) (R:I->Prop) (μ:I->Nat) (i0:I) (hR:R i0) (h0:Weak H.length fr H (KM (sets i0) (Yf 0 ks fr)) (hs i0))
  (round: ∀i,R i->awp cuts P c (KM (sets i) (Yf 0 ks fr)) (hs i) (Vq (fun fr' H'=> ∃i',R i'/\μ i'<μ i/\Weak H.length fr' H' (KM (sets i') (Yf 0 ks fr)) (hs i')) Q)):AWP P (.loop c) fr H Q :=
 ZaS R (fun i=>KM (sets i) (Yf 0 ks fr)) hs μ i0 hR h0 fun i hi=>Zc cuts _ _ _ _ (round i hi)
theorem Zm {P x y fr H Q} {I:Type} (ks:List Nat) (sets:I->List (Nat×V)) (hs:I->List Obj) (R:I->Prop)
  (h:awp [] P x fr H (Vq (fun fr' H'=> ∃i,R i/\Weak H.length fr' H' (KM (sets i) (Yf 0 ks fr)) (hs i)) Q)) (k: ∀i,R i->AWP P y (KM (sets i) (Yf 0 ks fr)) (hs i) Q):AWP P (.seq x y) fr H Q :=
 fun F ι a w hr hf=>by
 refine wp_seq (wp_mono (Zc [] _ _ _ _ h F ι a w hr hf) ?_);rintro e a' w' ⟨fr',H',ι',q,g,f⟩
 cases e with
 | normal =>
  obtain ⟨i,hi,hw⟩:=q;obtain ⟨ι2,r2,f2,g2⟩:=hw F ι' a' w' g.rel f;refine wp_mono (k i hi F ι2 a' w' r2 f2) ?_;rintro e2 a2 w2 ⟨fr2,H2,ι3,q2,g3,f3⟩;exact ⟨fr2,H2,ι3,q2,(g2 H ι w (Nat.le_refl _) g).trans g3,f3⟩
 | exit id=>exact ⟨fr',H',ι',q,g,f⟩
 | goto l=>exact ⟨fr',H',ι',q,g,f⟩
 | ret=>exact ⟨fr',H',ι',q,g,f⟩
 | panic ch=>exact ⟨fr',H',ι',q,g,f⟩
 | outgrown=>exact ⟨fr',H',ι',q,g,f⟩
@[go_sem] theorem Ztb {H n x} :wkV H n x .junk=True:=by simp [wkV]
@[go_sem] theorem Zyi {H n} {x y:PV} :wkV H n (.p x) (.p y)=(y=x):=by simp [wkV,refB,frz]
@[go_sem] theorem ZwA {H n o off len tot o' off' len' tot'} :wkV H n (.sl o off len tot) (.sl o' off' len' tot')=((o'=o/\off'=off/\len'=len/\tot'=tot)/\o<n):=by simp [wkV,refB]
@[go_sem] theorem ZsE {H n o off o' off'} :wkV H n (.ptr o off) (.ptr o' off')=((o'=o/\off'=off)/\o<n):=by simp [wkV,refB]
@[go_sem] theorem Zvz {H n} :wkF H n [] []=True:=by simp [wkF]
@[go_sem] theorem ZrW {H n x l x' l'} :wkF H n (x::l) (x'::l')=(wkV H n x x'/\wkF H n l l'):=by simp [wkF]
@[go_sem] theorem ZvH {H n l} :wkH H n l []=True:=by simp [wkH]
@[go_sem] theorem ZtX {H n x l x' l'} :wkH H n (x::l) (x'::l')=(wkO H n x x'/\wkH H n l l'):=by simp [wkH]
@[go_sem] theorem Zmr {H n cs cs'} :wkO H n (.cells cs) (.cells cs')=wkF H n cs cs':=by simp [wkO]
@[go_sem] theorem Zrh {H n S S' xs xs'} :wkO H n (.elems S xs) (.elems S' xs')=(S=S'/\xs=xs'):=by simp [wkO]
@[go_sem] theorem ZuU {H n es es2} :wkO H n (.map es) (.map es2)=(es=es2):=by simp [wkO]
@[go_sem] theorem Zxw {H n o o2} :wkV H n (.mp o) (.mp o2)=(o2=o/\o<n):=by simp [wkV,refB,frz]
@[go_sem] theorem Ztg {H n} :wkO H n .dead .dead=True:=by simp [wkO]
theorem Weak.mk {n0 fr H fr' H'} (h:n0<=H'.length/\H'.length<=H.length/\wkF H H'.length fr fr'/\wkH H H'.length H H'):Weak n0 fr H fr' H':=Weak.of h.1 h.2.2.1 h.2.2.2 h.2.1
theorem wk {n0 fr H fr' H'} (h:n0<=H'.length/\H'.length<=H.length/\wkF H H'.length fr fr'/\wkH H H'.length H H':=by simp (disch:=omega) only [go_sem,seval]):Weak n0 fr H fr' H':=Weak.mk h
theorem we {n0 x H' a b} (h:n0<=List.length b/\List.length b<=H'.length/\wkF H' (List.length b) [x] [a]/\wkH H' (List.length b) H' b:=by simp (disch:=omega) only [go_sem,seval]): ∃y H'',Weak n0 [x] H' [y] H''/\y=a/\H''=b:=⟨_,_,Weak.mk h,rfl,rfl⟩
attribute [go_sem] List.length_cons List.length_nil List.cons_append List.nil_append List.append_nil List.map_cons List.map_nil List.drop_zero List.drop_succ_cons List.drop_nil List.take_succ_cons List.take_zero List.take_nil List.all_cons List.all_nil
 Nat.zero_add Nat.add_zero and_self true_and and_true Option.map_some Option.bind_some List.getElem?_cons_zero List.getElem?_cons_succ Bool.and_true Bool.true_and Bool.and_self List.length_map if_true if_false decide_true decide_false IntWalk.i64_in IntWalk.i32_in IntWalk.u8_in IntWalk.u64_in IntWalk.u32_in
 beq_self_eq_true List.replicate_succ List.replicate_zero Bool.or_true Bool.true_or Bool.or_false Bool.false_or Bool.not_true Bool.not_false
end Go.AM
namespace Go.AM
open Go.RowKit
theorem RP.weaker {X X':Nat->Prop} {w x v} (h:RP X w x v) (hx: ∀b,X' b->X b):RP X' w x v:=h.ext (w':=w) fun _ hb hs=>⟨fun h=>hb (hx _ h),hs,rfl⟩
theorem Good.forget {F w H' ι' w'} (he:Env F [] w) (hf: ∀b,F b->b<w.heap.size) (g:Good F [] [] w H' ι' w'):Good F [] [] w [] [] w' :=
 .up he ⟨⟨rfl,fun b hb=>by have:=hf b hb;have:=g.size;omega,fun i j b hi=>by simp at hi,fun i b hi=>by simp at hi,fun o cs ho=>by simp at ho,fun o S xs ho=>by simp at ho,fun o es ho=>by simp at ho,fun o T E r bs ho=>by simp at ho⟩,
  g.os,g.tape,g.output,fun b c t h=>(g.shape b c t h).imp (fun h=>absurd h.1 (by simp)) id,g.size,g.keep,fun _ _ h=>h,fun o ob ho=>by simp at ho⟩
theorem ACalls.pure {P g args} {y:PV} (h:ACalls P g args [] fun x _=>x= .p y):ACalls P g args [] fun x H'=>x= .p y/\H'= []:=by
 refine ⟨h.1,fun F ι w vs hr hv=> ?_⟩;have hι:ι= []:=List.eq_nil_of_length_eq_zero hr.len;subst hι;refine (h.2 F [] w vs hr hv).mono ?_;rintro e w' ⟨x,H',ι',v,rfl,rfl,gd,rv⟩
 cases rv with | p _ _ rp =>
 exact ⟨_,[],[],v,rfl,⟨rfl,rfl⟩,gd.forget hr.env hr.fin,.p _ _ (rp.weaker fun b hb=> .inl (by rcases hb with hb | hb;exact hb;simp at hb))⟩
theorem U9 {F:Nat->Prop} {w w':World} {H':List Obj} {ι':List (Option Nat)} {v:Value} {o S n:Nat} {xs:List PV} (hF: ∀b,F b->b<w.heap.size) (hn:xs.length=n) (ho:oat H' o= .elems S xs)
  (gd:Good F [] [] w H' ι' w') (rv:RV F H' ι' w' (.sl o 0 n n) v): ∃ι2,Good F [] [] w [.elems S xs] ι2 w'/\RV F [.elems S xs] ι2 w' (.sl 0 0 n n) v:=by
 have hH:=Zz ho (by simp);have hlt:=(List.getElem?_eq_some_iff.1 hH).1
 have hlt':o<ι'.length:=by rw [gd.rel.len];exact hlt
 have hι':ι'[o]? =some (ι'[o]):=by simp [hlt']
 have hget: ∀ {i:Nat} {q:Option Nat},[ι'[o]][i]? =some q->i=0/\ι'[o]? =some q:=fun {i q} h=>by
  cases i with
  | zero=>simp at h;subst h;exact ⟨rfl,hι'⟩
  | succ i=>simp at h
 have hown: ∀b,Own F [ι'[o]] b->Own F ι' b:=fun b hb=>by
  rcases hb with hb | hb
  ·exact .inl hb
  ·simp at hb;right;rw [hb];simp
 refine ⟨[ι'[o]],⟨⟨⟨rfl,fun b hb=> ?_,fun i j b hi hj=> ?_,fun i b hi=> ?_,fun o' cs ho'=> ?_,fun o' S' xs' ho'=> ?_,fun o' es ho'=>by cases o'<;>simp at ho',fun o' T E r bs ho'=>by cases o'<;>simp at ho'⟩,gd.rel.env.le hown⟩,gd.os,gd.tape,gd.output,fun b c t h=>(gd.shape b c t h).imp (fun h=>absurd h.1 (by simp)) id,gd.size,gd.keep,fun b hb _ h=> ?_,fun o ob ho=>by simp at ho⟩,?_⟩
 ·have:=hF b hb;have:=gd.size;omega
 ·rw [(hget hi).1,(hget hj).1]
 ·exact gd.rel.avo o b (hget hi).2
 ·cases o' with
  | zero=>simp at ho'
  | succ i=>simp at ho'
 ·cases o' with
  | zero =>
   simp at ho';obtain ⟨rfl,rfl⟩:=ho';rcases gd.rel.elm o _ _ hH with ⟨e1,e2⟩ | ⟨b,c,t,cap,e1,e2,e3,e4,e5,e6,e7⟩
   ·exact .inl ⟨by rw [hι'] at e1;simpa using e1,e2⟩
   ·exact .inr ⟨b,c,t,cap,by rw [hι'] at e1;simpa using e1,e2,e3,e4,e5,e6,fun i x j y hi hj=>(e7 i x j y hi hj).weaker hown⟩
  | succ i=>simp at ho'
 ·simp at h;exact gd.own b hb (by simp) (by rw [h];simp)
 ·cases rv with
  | slNil _ S2 a h1 h2 =>
   rw [hH] at h2;simp at h2;obtain ⟨rfl,rfl⟩:=h2;exact .slNil 0 S a (by rw [hι'] at h1;simpa using h1) rfl
  | sl _ _ _ _ b S2 cap t xs2 c h1 h2 ht hw hcap hl hlen hm =>
   rw [hH] at h2;simp at h2;obtain ⟨rfl,rfl⟩:=h2;exact .sl 0 0 n n b S cap t xs c (by rw [hι'] at h1;simpa using h1) rfl hn hw hcap hl hlen hm
  | slD _ _ _ _ _ h1=>rw [hH] at h1;cases h1
  | slS _ _ _ _ _ S2 xs2 h1 hne=>rw [hH] at h1;simp at h1;obtain ⟨_,rfl⟩:=h1;omega
  | slC _ _ _ _ _ _ hd=>rw [hH] at hd;cases hd
theorem ACalls.fresh {P g args} {S n:Nat} {xs:List PV} (hn:xs.length=n) (h:ACalls P g args [] fun x H'=> ∃o,x= .sl o 0 n n/\oat H' o= .elems S xs):ACalls P g args [] fun x H'=>x= .sl 0 0 n n/\H'= [.elems S xs]:=by
 refine ⟨h.1,fun F ι w vs hr hv=> ?_⟩;have hι:ι= []:=List.eq_nil_of_length_eq_zero hr.len;subst hι;refine (h.2 F [] w vs hr hv).mono ?_;rintro e w' ⟨x,H',ι',v,rfl,⟨o,rfl,ho⟩,gd,rv⟩;obtain ⟨ι2,g2,r2⟩:=U9 hr.fin hn ho gd rv;exact ⟨_,_,ι2,v,rfl,⟨rfl,rfl⟩,g2,r2⟩
theorem ACalls.freshE {P g args} {α:Type} {S:Nat} {f:α->PV} {R:List α->Prop} (h:ACalls P g args [] fun x H'=> ∃l:List α,R l/\ ∃o,x= .sl o 0 l.length l.length/\oat H' o= .elems S (l.map f)) :
  ACalls P g args [] fun x H'=> ∃l:List α,R l/\x= .sl 0 0 l.length l.length/\H'= [.elems S (l.map f)]:=by
 refine ⟨h.1,fun F ι w vs hr hv=> ?_⟩;have hι:ι= []:=List.eq_nil_of_length_eq_zero hr.len;subst hι;refine (h.2 F [] w vs hr hv).mono ?_;rintro e w' ⟨x,H',ι',v,rfl,⟨l,hl,o,rfl,ho⟩,gd,rv⟩;obtain ⟨ι2,g2,r2⟩:=U9 hr.fin (by simp) ho gd rv;exact ⟨_,_,ι2,v,rfl,⟨l,hl,rfl,rfl⟩,g2,r2⟩
theorem ACalls.frozen {P g args} {S n:Nat} {xs:List PV} (hn:xs.length=n) (h:ACalls P g args [] fun x H'=>x= .sl 0 0 n n/\H'= [.elems S xs]):ACalls P g args [] fun x H'=>x= .p (.list false xs)/\H'= []:=by
 refine ⟨h.1,fun F ι w vs hr hv=> ?_⟩;have hι:ι= []:=List.eq_nil_of_length_eq_zero hr.len;subst hι;refine (h.2 F [] w vs hr hv).mono ?_;rintro e w' ⟨x,H',ι',v,rfl,⟨rfl,rfl⟩,gd,rv⟩;have hk:Keeps (Own F ι') w' (Own F []) w':=fun b hb hs=>⟨fun h=>hb (.inl (by rcases h with h | h;exact h;simp at h)),hs,rfl⟩
 have:=Qw (S:=S) (xs:=xs) (off:=0) (len:=n) (tot:=n) (Own F []) (fun b hb h=>by
  rcases h with h | h
  ·exact (gd.rel.avo 0 b hb).1 h
  ·simp at h) hk gd.rel rfl hn (by omega) rv
 rw [Nat.zero_add,List.drop_zero,List.take_of_length_le (by omega)] at this;exact ⟨_,[],[],v,rfl,⟨rfl,rfl⟩,gd.forget hr.env hr.fin,.p _ _ this⟩
theorem ACalls.frozenE {P g args} {α:Type} {S:Nat} {f:α->PV} {R:List α->Prop} (h:ACalls P g args [] fun x H'=> ∃l:List α,R l/\x= .sl 0 0 l.length l.length/\H'= [.elems S (l.map f)]) :
  ACalls P g args [] fun x H'=> ∃l:List α,R l/\x= .p (.list false (l.map f))/\H'= []:=by
 refine ⟨h.1,fun F ι w vs hr hv=> ?_⟩;have hι:ι= []:=List.eq_nil_of_length_eq_zero hr.len;subst hι;refine (h.2 F [] w vs hr hv).mono ?_;rintro e w' ⟨x,H',ι',v,rfl,⟨l,hl,rfl,rfl⟩,gd,rv⟩;have hk:Keeps (Own F ι') w' (Own F []) w':=fun b hb hs=>⟨fun h=>hb (.inl (by rcases h with h | h;exact h;simp at h)),hs,rfl⟩
 have:=Qw (S:=S) (xs:=l.map f) (off:=0) (len:=l.length) (tot:=l.length) (Own F []) (fun b hb h=>by
  rcases h with h | h
  ·exact (gd.rel.avo 0 b hb).1 h
  ·simp at h) hk gd.rel rfl (by simp) (by omega) rv
 rw [Nat.zero_add,List.drop_zero,List.take_of_length_le (by simp)] at this;exact ⟨_,[],[],v,rfl,⟨l,hl,rfl,rfl⟩,gd.forget hr.env hr.fin,.p _ _ this⟩
theorem ACalls.useV {P g args} {α:Type} {f:α->PV} {R:α->Prop} {H:List Obj} {K:V->List Obj->Prop} (h:ACalls P g args [] fun x H'=> ∃a:α,R a/\x= .p (f a)/\H'= []) (k: ∀a,R a->K (.p (f a)) H) (ha:ZJ 0 args=true:=by rfl):ACalls P g args H K:=by
 refine (h.behind ha H).mono ?_;rintro x H' ⟨y',H1,⟨a,ra,rfl,rfl⟩,rfl,rfl⟩;simpa [shV] using k a ra
theorem ACalls.useE {P g args} {α:Type} {S:Nat} {f:α->PV} {R:List α->Prop} {H:List Obj} {K:V->List Obj->Prop} (h:ACalls P g args [] fun x H'=> ∃l:List α,R l/\x= .sl 0 0 l.length l.length/\H'= [.elems S (l.map f)])
  (k: ∀l,R l->K (.sl H.length 0 l.length l.length) (H++ [.elems S (l.map f)])) (ha:ZJ 0 args=true:=by rfl):ACalls P g args H K:=by
 refine (h.behind ha H).mono ?_;rintro x H' ⟨y',H1,⟨l,rl,rfl,rfl⟩,rfl,rfl⟩;simpa [shV,shO] using k l rl
theorem ACalls.use {P g args} {y:PV} {H:List Obj} {K:V->List Obj->Prop} (h:ACalls P g args [] fun x H'=>x= .p y/\H'= []) (k:K (.p y) H) (ha:ZJ 0 args=true:=by rfl):ACalls P g args H K:=by
 refine (h.behind ha H).mono ?_;rintro x H' ⟨y',H1,⟨rfl,rfl⟩,rfl,rfl⟩;simpa [shV] using k
theorem ACalls.useF {P g args} {S n:Nat} {xs:List PV} {H:List Obj} {K:V->List Obj->Prop} (h:ACalls P g args [] fun x H'=>x= .sl 0 0 n n/\H'= [.elems S xs]) (k:K (.sl H.length 0 n n) (H++ [.elems S xs])) (ha:ZJ 0 args=true:=by rfl):ACalls P g args H K:=by
 refine (h.behind ha H).mono ?_;rintro x H' ⟨y',H1,⟨rfl,rfl⟩,rfl,rfl⟩;simpa [shV,shO] using k
theorem Za {P:Program} {g:FuncId} {fn:Func} {c:Code} {args:List V} {y:PV} (hf:P.funcs[g]? =some fn) (hb:fn.body=some c) (hg:Zi P g)
  (h:awp [] P c (args++List.replicate (fn.ntmps-args.length) .junk) [] (KL P fn.results.toList fun x _=>x= .p y)):ACalls P g args [] fun x H'=>x= .p y/\H'= [] :=
 (Z3 hf hb hg (Zc [] _ _ _ _ h)).pure
theorem J9 (cuts:List Nat) {P:Program} {g:FuncId} {fn:Func} {c:Code} {args:List V} {y:PV} (hf:P.funcs[g]? =some fn) (hb:fn.body=some c) (hg:Zi P g)
  (h:awp cuts P c (args++List.replicate (fn.ntmps-args.length) .junk) [] (KL P fn.results.toList fun x _=>x= .p y)):ACalls P g args [] fun x H'=>x= .p y/\H'= [] :=
 (Z3 hf hb hg (Zc cuts _ _ _ _ h)).pure
theorem VI {P:Program} {g:FuncId} {fn:Func} {c:Code} {args:List V} {S n:Nat} {xs:List PV} (hn:xs.length=n) (hf:P.funcs[g]? =some fn) (hb:fn.body=some c) (hg:Zi P g)
  (h:awp [] P c (args++List.replicate (fn.ntmps-args.length) .junk) [] (KL P fn.results.toList fun x H'=> ∃o,x= .sl o 0 n n/\oat H' o= .elems S xs)):ACalls P g args [] fun x H'=>x= .sl 0 0 n n/\H'= [.elems S xs] :=
 (Z3 hf hb hg (Zc [] _ _ _ _ h)).fresh hn
theorem Ji (cuts:List Nat) {P:Program} {g:FuncId} {fn:Func} {c:Code} {args:List V} {S n:Nat} {xs:List PV} (hn:xs.length=n) (hf:P.funcs[g]? =some fn) (hb:fn.body=some c) (hg:Zi P g)
  (h:awp cuts P c (args++List.replicate (fn.ntmps-args.length) .junk) [] (KL P fn.results.toList fun x H'=> ∃o,x= .sl o 0 n n/\oat H' o= .elems S xs)):ACalls P g args [] fun x H'=>x= .sl 0 0 n n/\H'= [.elems S xs] :=
 (Z3 hf hb hg (Zc cuts _ _ _ _ h)).fresh hn
theorem ZA (cuts:List Nat) {P:Program} {g:FuncId} {fn:Func} {c:Code} {args:List V} {α:Type} {S:Nat} {f:α->PV} {R:List α->Prop} (hf:P.funcs[g]? =some fn) (hb:fn.body=some c) (hg:Zi P g)
  (h:awp cuts P c (args++List.replicate (fn.ntmps-args.length) .junk) [] (KL P fn.results.toList fun x H'=> ∃l:List α,R l/\ ∃o,x= .sl o 0 l.length l.length/\oat H' o= .elems S (l.map f))):ACalls P g args [] fun x H'=> ∃l:List α,R l/\x= .sl 0 0 l.length l.length/\H'= [.elems S (l.map f)] :=
 (Z3 hf hb hg (Zc cuts _ _ _ _ h)).freshE
theorem Weak.ofNil {n0 fr H fr' H'} (t S:Nat) (h:gt fr t= .p (.list true [])) (hn:n0<=H.length) (k:Weak n0 (pt fr t (.sl H.length 0 0 0)) (H++ [.elems S []]) fr' H'):Weak n0 fr H fr' H' :=
 (Weak.nil t S h hn).trans k
end Go.AM
namespace Go.AM
open Go.RowKit
section
variable {P : Program} {H : List Obj} {t : TypeId} {fr : List V}
def ZdF (e:Option (Option Nat×Nat)) (c:Bool) (xs:List PV) (lo hi:V):Option V:=match e,lo,hi with
 | some (none,S),.p (.int _ a),.p (.int _ b)=>if Zed S xs=true/\0<=a/\a<=b/\b<=xs.length then some (.p (.list (c&&decide (b=xs.length)) ((xs.take b.toNat).drop a.toNat))) else none
 | _,_,_=>none
def V.isInt : V->Option Int
 | .p (.int _ n)=>some n
 | _=>none
theorem V.isInt_some {x:V} {n} (h:x.isInt=some n): ∃k,x= .p (.int k n):=by
 unfold V.isInt at h;split at h
 ·rename_i k m;simp at h;exact ⟨k,by rw [h]⟩
 ·cases h
theorem Vd {d:Int} {x:Operand} :abd d fr (some x)=(ev fr x).isInt:=rfl
theorem Uo {c xs k k' a b} :(Vy P t c xs a b none).map .p=ZdF (We P t) c xs (.p (.int k a)) (.p (.int k' b)):=by
 simp only [Vy,ZdF]
 cases We P t with
 | none=>rfl
 | some q =>
  obtain ⟨e,S⟩:=q
  cases e with
  | some n=>rfl
  | none=>simp only [];split<;>rfl
theorem Ze0 {e c xs lo hi} (h:lo.isInt=none):ZdF e c xs lo hi=none:=by
 unfold ZdF;split
 ·simp [V.isInt] at h
 ·rfl
theorem Zfi {e c xs lo hi} (h:hi.isInt=none):ZdF e c xs lo hi=none:=by
 unfold ZdF;split
 ·simp [V.isInt] at h
 ·rfl
@[go_sem] theorem Znu {c xs hi} :YC P H t fr (.p (.list c xs)) none (some hi) none=ZdF (We P t) c xs (.p (.int .i64 0)) (ev fr hi):=by
 simp only [YC,Vd]
 cases h:(ev fr hi).isInt with
 | none=>simp [abd,Zfi h]
 | some n=>obtain ⟨k,e⟩:=V.isInt_some h;rw [e,<- Uo];rfl
@[go_sem] theorem ZmR {c xs lo} :YC P H t fr (.p (.list c xs)) (some lo) none none=ZdF (We P t) c xs (ev fr lo) (.p (.int .i64 (List.length xs))):=by
 simp only [YC,Vd]
 cases h:(ev fr lo).isInt with
 | none=>simp [Ze0 h]
 | some n=>obtain ⟨k,e⟩:=V.isInt_some h;rw [e,<- Uo];rfl
@[go_sem] theorem Zjh {c xs lo hi} :YC P H t fr (.p (.list c xs)) (some lo) (some hi) none=ZdF (We P t) c xs (ev fr lo) (ev fr hi):=by
 simp only [YC,Vd]
 cases h:(ev fr lo).isInt with
 | none=>simp [Ze0 h]
 | some n =>
  cases h2:(ev fr hi).isInt with
  | none=>simp [Zfi h2]
  | some m=>obtain ⟨k,e⟩:=V.isInt_some h;obtain ⟨k2,e2⟩:=V.isInt_some h2;rw [e,e2,<- Uo]
@[go_sem] theorem Zt8 {α:Type} {f:α->PV} {l:List α} {S c k k' a b} (h0:0<=a) (h1:a<=b) (h2:b<=(l.length:Int)) :
  ZdF (some (none,S)) c (l.map f) (.p (.int k a)) (.p (.int k' b))=if Zed S (l.map f)=true then some (.p (.list (c&&decide (b=l.length)) (((l.take b.toNat).drop a.toNat).map f))) else none:=by
 simp only [ZdF,List.length_map]
 by_cases h:Zed S (l.map f)=true
 ·rw [if_pos ⟨h,h0,h1,h2⟩,if_pos h];simp
 ·rw [if_neg (fun q=>h q.1),if_neg h]
end
def ZiV (P:Program) (d:Option TypeDesc) (x i:V):Option V :=
 match d,x,i with
 | some .string,.p (.str s),.p (.int _ n)=>if 0<=n then (s[n.toNat]?).map fun b=> .p (.int .u8 b.toNat) else none
 | some (.array k e),.p (.agg cs),.p (.int _ n)=>if 0<=n/\n<k then (match tsz P e with | some m=>(apart P e cs (n.toNat*m)).map .p | none=>none) else none
 | _,_,_=>none
@[go_sem] theorem Zvx {P:Program} {t:TypeId} {x i:V} :ZeF P t x i=ZiV P (P.underlying t) x i:=Eq.trans rfl rfl
@[go_sem] theorem ZmG {P:Program} {s:List UInt8} {k n} (h0:0<=n) (h1:n<(s.length:Int)):ZiV P (some .string) (.p (.str s)) (.p (.int k n))=some (.p (.int .u8 ((nth s n.toNat).toNat:Nat))):=by
 have h:n.toNat<s.length:=by omega
 simp [ZiV,h0,h,Zf h]
def Zhl (d:Option TypeDesc) (s:List UInt8) (lo hi:V):Option V:=match d,lo,hi with
 | some .string,.p (.int _ a),.p (.int _ b)=>if 0<=a/\a<=b/\b<=s.length then some (.p (.str ((s.take b.toNat).drop a.toNat))) else none
 | _,_,_=>none
theorem ZkM {d s lo hi} (h:lo.isInt=none):Zhl d s lo hi=none:=by
 unfold Zhl;split
 ·simp [V.isInt] at h
 ·rfl
theorem Zj0 {d s lo hi} (h:hi.isInt=none):Zhl d s lo hi=none:=by
 unfold Zhl;split
 ·simp [V.isInt] at h
 ·rfl
section
variable {P : Program} {H : List Obj} {t : TypeId} {fr : List V}
theorem Zfd {s:List UInt8} {k k' a b} :(match P.underlying t with | some .string=>(if 0<=a/\a<=b/\b<=(s.length:Int) then some (V.p (.str ((s.take b.toNat).drop a.toNat))) else none) | _=>none)=Zhl (P.underlying t) s (.p (.int k a)) (.p (.int k' b)):=by
 simp only [Zhl]
 cases P.underlying t with
 | none=>rfl
 | some d=>cases d<;>rfl
@[go_sem] theorem Zig {s lo hi} :YC P H t fr (.p (.str s)) (some lo) (some hi) none=Zhl (P.underlying t) s (ev fr lo) (ev fr hi):=by
 simp only [YC,Vd]
 cases h:(ev fr lo).isInt with
 | none=>rw [ZkM h];simp
 | some n =>
  cases h2:(ev fr hi).isInt with
  | none=>rw [Zj0 h2];simp
  | some m =>
   obtain ⟨k,e⟩:=V.isInt_some h;obtain ⟨k2,e2⟩:=V.isInt_some h2;rw [e,e2,<- Zfd]
   cases P.underlying t with
   | none=>rfl
   | some d=>cases d<;>rfl
end
@[go_sem low] theorem ZgZ {H:List Obj} {S b xs ys o n} :Qp H (some (S,b)) (.elems S xs) o n (some ys)=if xs.length=n/\okE S ys=true/\(n+ys.length)*b<=140737488355328/\n+ys.length<=140737488355328 then some (.sl o 0 (n+ys.length) (n+ys.length),ost H o (.elems S (xs++ys))) else none:=by simp [Qp]
@[go_sem] theorem ZvR {H:List Obj} {n f a b f' a' b'} :wkV H n (.fn f a b) (.fn f' a' b')=((f'=f/\a'=a/\b'=b)/\refB n (.fn f a b)=true):=by simp [wkV,frz]
@[go_sem] theorem ZvN {n f a b} :refB n (.fn f a b)=(ZJ n a&&ZJ n b):=by simp [refB]
@[go_sem] theorem ZyA {n x} :refB n (.p x)=true:=by simp [refB]
@[go_sem] theorem Ztu {n o off} :refB n (.ptr o off)=decide (o<n):=by simp [refB]
@[go_sem] theorem Zop {n} :ZJ n []=true:=by simp [ZJ]
@[go_sem] theorem Zk5 {n x l} :ZJ n (x::l)=(refB n x&&ZJ n l):=by simp [ZJ]
theorem ACalls.useH {P g args H} {v:V} {H2:List Obj} {K:V->List Obj->Prop} (h:ACalls P g args H fun x H'=>x=v/\H'=H2) (k:K v H2):ACalls P g args H K :=
 h.mono (by rintro _ _ ⟨rfl,rfl⟩;exact k)
theorem QX {α:Type} {f:α->PV} {S:Nat} (h: ∀x,(f x).cells.length=S) (l:List α):Zed S (l.map f)=true:=by
 cases l with
 | nil=>rfl
 | cons x l=>simp [Zed,h]
def Ww (F:Option (Nat×Nat×PV)) (H:List Obj) (x y:V):Option (V×List Obj):=match F,x,y with
 | some (S,by',z),.p (.int .i64 n),.p (.int .i64 m)=>if n=m/\0<=n/\(by':Int)*n<=281474976710656/\n<=281474976710656 then some (.sl H.length 0 n.toNat n.toNat,H++ [.elems S (List.replicate n.toNat z)]) else none
 | _,_,_=>none
theorem Qm {P:Program} {t:TypeId} {fr:List V} {H:List Obj} {x y:Operand} {F} (h:ZhF P t=some F):Wd P (.makeSlice t x y) fr H=Ww (some F) H (ev fr x) (ev fr y):=by
 unfold ZhF at h
 split at h
 ·rename_i e hu
  split at h
  ·rename_i S' z' b h1 h2 h3
   split at h
   ·rename_i hc;simp at h;subst h
    have h3':(P.info? e).map (fun x=>(x.bytes:Int))=some (b:Int):=by
     cases hi:P.info? e with
     | none=>simp [hi] at h3
     | some i=>simp [hi] at h3 ⊢;rw [h3]
    simp only [Wd,hu,h2,hc.1,if_true,Zhw,h1,h3'];generalize ev fr x=X;generalize ev fr y=Y
    by_cases hX: ∃n,X= .p (.int .i64 n)
    ·obtain ⟨n,rfl⟩:=hX
     by_cases hY: ∃m,Y= .p (.int .i64 m)
     ·obtain ⟨m,rfl⟩:=hY;simp [Ww,hc.2]
     ·have e1:Ww (some (S',b,z')) H (.p (.int .i64 n)) Y=none:=by
       unfold Ww;split
       ·rename_i hm;exact absurd ⟨_,rfl⟩ hY
       ·rfl
      rw [e1];split
      ·exact absurd ⟨_,rfl⟩ hY
      ·rfl
    ·have e1:Ww (some (S',b,z')) H X Y=none:=by
      unfold Ww;split
      ·exact absurd ⟨_,rfl⟩ hX
      ·rfl
     rw [e1];split
     ·exact absurd ⟨_,rfl⟩ hX
     ·rfl
   ·cases h
  ·cases h
 ·cases h
@[go_sem] theorem ZpF {H:List Obj} {S b:Nat} {z n} (h0:0<=n) (h1:(b:Int)*n<=281474976710656) (h2:n<=281474976710656):Ww (some (S,b,z)) H (.p (.int .i64 n)) (.p (.int .i64 n))=some (.sl H.length 0 n.toNat n.toNat,H++ [.elems S (List.replicate n.toNat z)]):=by
 simp only [Ww];rw [if_pos ⟨trivial,h0,h1,h2⟩]
theorem Zn6 (x y:Nat) (hx:x<9223372036854775808) (hy:y<9223372036854775808):IntKind.i64.wrap ((BitVec.ofInt 64 (x:Int)|||BitVec.ofInt 64 (y:Int)).toNat:Int)=((x|||y:Nat):Int):=by
 have e:(BitVec.ofInt 64 (x:Int)|||BitVec.ofInt 64 (y:Int)).toNat=x|||y:=by
  simp [BitVec.toNat_or,Nat.mod_eq_of_lt (show x<18446744073709551616 by omega),Nat.mod_eq_of_lt (show y<18446744073709551616 by omega)]
 have h:x|||y<2^63:=Nat.or_lt_two_pow (by omega) (by omega);rw [e];exact IntWalk.i64_in _ (by omega)
@[go_sem high] theorem Zg7 {P:Program} {t:TypeId} {x y:Nat} (hx:x<9223372036854775808) (hy:y<9223372036854775808):X4 P .or t (.p (.int .i64 (x:Int))) (.p (.int .i64 (y:Int)))=some (.int .i64 ((x|||y:Nat):Int)):=by
 rw [ZcW];exact congrArg (fun q=>some (PV.int .i64 q)) (Zn6 x y hx hy)
def pw (k:Nat):Nat:=2^k
theorem KY (k:Nat):pw (k+1)=2*pw k:=by simp [pw,Nat.pow_succ];omega
theorem Zaw {k m:Nat} (h:k<=m):pw k<=pw m:=Nat.pow_le_pow_right (by omega) h
theorem ZiN (k:Nat):0<pw k:=Nat.pow_pos (by omega)
theorem Zb7 : pw 62=4611686018427387904:=by decide
@[go_sem high] theorem ZrD {P:Program} {t:TypeId} {k'} {a:Int} (h0:0<=a) (h1:a<=62):X4 P .shl t (.p (.int .i64 1)) (.p (.int k' a))=some (.int .i64 ((pw a.toNat:Nat):Int)):=by
 rw [ZgK h0]
 have h2:min a.toNat IntKind.i64.bits=a.toNat:=by show min a.toNat 64=a.toNat;omega
 rw [h2,Int.one_mul]
 have h3:((2:Int)^a.toNat)=((pw a.toNat:Nat):Int):=by simp [pw]
 rw [h3];have:=Zaw (show a.toNat<=62 by omega);have:=Zb7;rw [IntWalk.i64_in _ (by omega)]
attribute [go_sem] List.length_append List.map_append not_false_eq_true not_true_eq_false false_and and_false true_or or_true false_or or_false Classical.not_not Bool.false_eq_true Bool.and_false Bool.false_and
end Go.AM
namespace Go.AM
open Go.RowKit
theorem Ze2 {P ds frJ H} {K K':List V->Prop} : ∀(l:List Oper) (i:Nat) (vals:List V),(∀ys,ys.length=vals.length+l.length->K ys->K' ys)->hd P ds frJ H K i l vals->hd P ds frJ H K' i l vals
 | [],i,vals,hk,h=>hk vals rfl h
 | o::l,i,vals,hk,h=>by
  have ih: ∀y,hd P ds frJ H K (i+1) l (vals++ [y])->hd P ds frJ H K' (i+1) l (vals++ [y]):=fun y=>Ze2 l (i+1) (vals++ [y]) fun ys hy=>hk ys (by simp at hy ⊢;omega);simp only [hd] at h ⊢
  split at h
  ·obtain ⟨y,h1,h2⟩:=h;exact ⟨y,h1,ih y h2⟩
  ·unfold ZX at h ⊢
   split at h
   ·exact ⟨fun e=>by obtain ⟨y,h1,h2⟩:=h.1 e;exact ⟨y,h1,ih y h2⟩,fun e=>ih _ (h.2 e)⟩
   ·exact ih _ h
   ·exact h.elim
def XW : List (Option Nat)->List V->List V->List V
 | some d::ds,v::vals,fr=>XW ds vals (pt fr d v)
 | none::ds,_::vals,fr=>XW ds vals fr
 | _,_,fr=>fr
def exq (A:V->Prop) (B:V->Prop):Prop:= ∃y,A y/\B y
section
variable {P : Program} {ds : List (Option Nat)} {frJ : List V} {H : List Obj} {K : List V -> Prop} {i : Nat} {r : List Oper} {vals : List V} {d : Option Nat} {op : Op} {t : TypeId} {ps : String} {af : Array Edge}
@[go_sem ↓, go_sem] theorem Zys {v:V} {B:V->Prop} {t} :exq (fun y=>v=y) (ZB B t)=B v:=by simp [exq,ZB]
def Zmu (ds:List (Option Nat)) (vals:List V) (l:List Nat) (fr:List V) (a:Option (Option Nat)) (v:Option V):List V:=match a,v with
 | some (some d),some v=>ZV ds vals l (pt fr d v)
 | _,_=>ZV ds vals l fr
theorem Zn {f azs} {z:PV} {B:V->Prop} {t} (h:ACalls P f azs [] fun x H'=>x= .p z/\H'= []) (k:B (.p z)) (ha:ZJ 0 azs=true:=by rfl) :
  exq (fun y=>ACalls P f azs H (ZB (ZB (fun x H'=>x=y/\H'=H) ⟨⟩) ⟨⟩)) (ZB B t) :=
 ⟨.p z,h.use ⟨rfl,rfl⟩ ha,k⟩
end
section
variable {P : Program} {fr : List V} {H : List Obj} {k : V -> List Obj -> Prop} {d : Option Nat} {t : TypeId} {ps : String} {af : Array Edge} {g : Option (Nat × Bool)}
@[go_sem ↓] theorem Zld {u n l} :Zr P ⟨d,.buildSlice u n (List.toArray l),t,ps,af,g⟩ fr H k=pst ((ZcC (Jd P u) H n (l.map fun x=>(x.1,ev fr x.2))).map .p) (ZB (fun v=>k v H) ⟨⟩):=by
 simp only [Zr]
 cases (ZcC (Jd P u) H n (l.map fun x=>(x.1,ev fr x.2)))<;>simp [pst,ZB]
@[go_sem] theorem Zlk {S n l} :ZcC (some S) H n l=if n=l.length/\n*S<=16777216/\0<S then (U1 H S 0 l).map (.list false) else none:=Eq.trans rfl rfl
@[go_sem ↓] theorem Zji {x} :Zr P ⟨d,.move x,t,ps,af,g⟩ fr H k=Zq P ⟨d,.move x,t,ps,af,g⟩ fr H k:=rfl
@[go_sem ↓] theorem ZhL {x} :Zr P ⟨d,.assign x,t,ps,af,g⟩ fr H k=Zq P ⟨d,.assign x,t,ps,af,g⟩ fr H k:=rfl
@[go_sem ↓] theorem Zka {x y z} :Zr P ⟨d,.pick x y z,t,ps,af,g⟩ fr H k=Zq P ⟨d,.pick x y z,t,ps,af,g⟩ fr H k:=rfl
@[go_sem ↓] theorem Zim {x} :Zr P ⟨d,.alloc x,t,ps,af,g⟩ fr H k=Zq P ⟨d,.alloc x,t,ps,af,g⟩ fr H k:=rfl
@[go_sem ↓] theorem ZkZ {x y} :Zr P ⟨d,.box x y,t,ps,af,g⟩ fr H k=Zq P ⟨d,.box x y,t,ps,af,g⟩ fr H k:=rfl
@[go_sem ↓] theorem ZiM {x y} :Zr P ⟨d,.build x y,t,ps,af,g⟩ fr H k=Zq P ⟨d,.build x y,t,ps,af,g⟩ fr H k:=rfl
@[go_sem ↓] theorem Zjy {x y} :Zr P ⟨d,.load x y,t,ps,af,g⟩ fr H k=Zq P ⟨d,.load x y,t,ps,af,g⟩ fr H k:=rfl
@[go_sem ↓] theorem ZiD {x y z} :Zr P ⟨d,.store x y z,t,ps,af,g⟩ fr H k=Zq P ⟨d,.store x y z,t,ps,af,g⟩ fr H k:=rfl
@[go_sem ↓] theorem ZdK {x} :Zr P ⟨d,.nilCheck x,t,ps,af,g⟩ fr H k=Zq P ⟨d,.nilCheck x,t,ps,af,g⟩ fr H k:=rfl
@[go_sem ↓] theorem ZiB {x y z u v} :Zr P ⟨d,.binOp x y z u v,t,ps,af,g⟩ fr H k=Zq P ⟨d,.binOp x y z u v,t,ps,af,g⟩ fr H k:=rfl
@[go_sem ↓] theorem ZjL {x y z} :Zr P ⟨d,.unOp x y z,t,ps,af,g⟩ fr H k=Zq P ⟨d,.unOp x y z,t,ps,af,g⟩ fr H k:=rfl
@[go_sem ↓] theorem ZfH {x y z} :Zr P ⟨d,.convert x y z,t,ps,af,g⟩ fr H k=Zq P ⟨d,.convert x y z,t,ps,af,g⟩ fr H k:=rfl
@[go_sem ↓] theorem Zc9 {x y z} :Zr P ⟨d,.makeFunc x y z,t,ps,af,g⟩ fr H k=Zq P ⟨d,.makeFunc x y z,t,ps,af,g⟩ fr H k:=rfl
@[go_sem ↓] theorem ZcQ {x y z} :Zr P ⟨d,.makeSlice x y z,t,ps,af,g⟩ fr H k=Zq P ⟨d,.makeSlice x y z,t,ps,af,g⟩ fr H k:=rfl
@[go_sem ↓] theorem Zio {x y z u v} :Zr P ⟨d,.slice x y z u v,t,ps,af,g⟩ fr H k=Zq P ⟨d,.slice x y z u v,t,ps,af,g⟩ fr H k:=rfl
@[go_sem ↓] theorem ZcP {x y z} :Zr P ⟨d,.fieldAddr x y z,t,ps,af,g⟩ fr H k=Zq P ⟨d,.fieldAddr x y z,t,ps,af,g⟩ fr H k:=rfl
@[go_sem ↓] theorem Zij {x y z} :Zr P ⟨d,.field x y z,t,ps,af,g⟩ fr H k=Zq P ⟨d,.field x y z,t,ps,af,g⟩ fr H k:=rfl
@[go_sem ↓] theorem ZcT {x y z} :Zr P ⟨d,.indexAddr x y z,t,ps,af,g⟩ fr H k=Zq P ⟨d,.indexAddr x y z,t,ps,af,g⟩ fr H k:=rfl
@[go_sem ↓] theorem Zh9 {x y z} :Zr P ⟨d,.index x y z,t,ps,af,g⟩ fr H k=Zq P ⟨d,.index x y z,t,ps,af,g⟩ fr H k:=rfl
@[go_sem ↓] theorem ZfE {x y} :Zr P ⟨d,.extract x y,t,ps,af,g⟩ fr H k=Zq P ⟨d,.extract x y,t,ps,af,g⟩ fr H k:=rfl
@[go_sem ↓] theorem ZjV {x y z} :Zr P ⟨d,.call ⟨.value x,y,z⟩,t,ps,af,g⟩ fr H k=Zq P ⟨d,.call ⟨.value x,y,z⟩,t,ps,af,g⟩ fr H k:=rfl
@[go_sem ↓] theorem Zlr {y z} :Zr P ⟨d,.call ⟨.builtin .len,y,z⟩,t,ps,af,g⟩ fr H k=Zq P ⟨d,.call ⟨.builtin .len,y,z⟩,t,ps,af,g⟩ fr H k:=rfl
@[go_sem ↓] theorem ZlK {y z} :Zr P ⟨d,.call ⟨.builtin .max,y,z⟩,t,ps,af,g⟩ fr H k=Zq P ⟨d,.call ⟨.builtin .max,y,z⟩,t,ps,af,g⟩ fr H k:=rfl
@[go_sem ↓] theorem Zlh {y z} :Zr P ⟨d,.call ⟨.builtin .min,y,z⟩,t,ps,af,g⟩ fr H k=Zq P ⟨d,.call ⟨.builtin .min,y,z⟩,t,ps,af,g⟩ fr H k:=rfl
theorem Jx {o fr' H'} (h:fr=fr') (h2:H=H'):Zr P o fr H k=Zr P o fr' H' k:=by rw [h,h2]
end
attribute [congr] Jx
attribute [go_sem] List.filter_cons List.filter_nil
end Go.AM
namespace Go.AM
open Go.RowKit
def vw (H:List Obj):V->Option V
 | .p x=>some (.p x)
 | .fn f [] []=>some (.fn f [] [])
 | .sl o off len tot=>match oat H o with
  | .elems _ xs=>if xs.length=tot/\off+len<=tot then some (.p (.list false ((xs.take (off+len)).drop off))) else none
  | _=>none
 | _=>none
def vws (H:List Obj):List V->Option (List V)
 | []=>some []
 | x::l=>match vw H x,vws H l with | some y,some ys=>some (y::ys) | _,_=>none
abbrev Zi8 : Nat->Prop:=fun _=>False
theorem Zg4 {b:Nat} : ¬Own Zi8 [] b:=by simp [Own]
theorem Zhm {w:World} (he:Env Zi8 [] w):Rel Zi8 [] [] w:=⟨⟨rfl,fun b hb=>hb.elim,fun i j b hi=>by simp at hi,fun i b hi=>by simp at hi,fun o cs ho=>by simp at ho,fun o S xs ho=>by simp at ho,fun o es ho=>by simp at ho,fun o T E r bs ho=>by simp at ho⟩,he⟩
def rd1 (H:List Obj):V->Option PV
 | .p x=>some x
 | .sl o off len tot=>match oat H o with
  | .elems _ xs=>if xs.length=tot/\off+len<=tot then some (.list false ((xs.take (off+len)).drop off)) else none
  | _=>none
 | _=>none
def rds (H:List Obj):List V->Option (List PV)
 | []=>some []
 | x::l=>match rd1 H x,rds H l with | some y,some ys=>some (y::ys) | _,_=>none
def rd (H:List Obj):V->Option PV
 | .agg cs=>(rds H cs).map .agg
 | x=>rd1 H x
attribute [go_sem] Option.map_none
end Go.AM
set_option linter.unusedVariables false
set_option linter.unusedSimpArgs false
namespace Go.Proofs.YtcpmilhkineciaaGreatDoor.K
open Go Go.AM
def Val (n:Nat) (be:List (Int×Int)):Prop:= ∀p∈be,0<=p.1/\p.1<n/\0<=p.2/\p.2<n
theorem Qq (a b:Nat):(pw a).testBit b=decide (a=b):=by simp [pw,Nat.testBit_two_pow]
def tot (l:List Nat):Nat:=l.foldr (· + ·) 0
theorem Zmq {s b:Nat} (h:s.testBit b=false) (j:Nat):(s+pw b).testBit j=(s.testBit j||decide (b=j)):=by
 have e1:s=2^(b+1)*(s / 2^(b+1))+s%2^(b+1):=(Nat.div_add_mod _ _).symm;have e2:s%2^(b+1)<2^(b+1):=Nat.mod_lt _ (Nat.two_pow_pos _)
 have e3:s%2^(b+1)<2^b:=by
  rw [Nat.testBit_eq_decide_div_mod_eq] at h;simp at h
  have h1:s%2^(b+1)=s%2^b+2^b*(s / 2^b%2):=by rw [Nat.pow_succ,Nat.mod_mul]
  rw [h1,h,Nat.mul_zero,Nat.add_zero];exact Nat.mod_lt _ (Nat.two_pow_pos _)
 generalize s / 2^(b+1)=q at e1;generalize s%2^(b+1)=r at e1 e2 e3
 have hp:2^(b+1)=2^b+2^b:=by rw [Nat.pow_succ];omega
 have e4:s+pw b=2^(b+1)*q+(2^b*1+r):=by rw [e1,pw];omega
 rw [e4,Nat.testBit_two_pow_mul_add _ (by omega),e1,Nat.testBit_two_pow_mul_add _ e2]
 by_cases hj:j<b+1
 ·simp only [hj,if_true];rw [Nat.testBit_two_pow_mul_add _ e3]
  by_cases hj2:j<b
  ·have: ¬b=j:=by omega
   simp [hj2,this]
  ·have:j=b:=by omega
   subst this;simp
 ·have: ¬b=j:=by omega
  simp [hj,this]
def YT (p:Nat->Bool):Nat->Nat
 | 0=>0
 | k+1=>if p k then YT p k+pw k else YT p k
theorem V4 (p:Nat->Bool): ∀k,YT p k<pw k
 | 0=>by simp [YT,pw]
 | k+1=>by
  have:=V4 p k;have:=KY k;simp only [YT]
  split<;>omega
theorem UE (p:Nat->Bool): ∀k j,(YT p k).testBit j=(decide (j<k)&&p j)
 | 0,j=>by simp [YT]
 | k+1,j=>by
  have hb:(YT p k).testBit k=false:=Nat.testBit_lt_two_pow (V4 p k);simp only [YT]
  split
  ·rename_i hp;rw [Zmq hb,UE p k j]
   by_cases hj:k=j
   ·subst hj;simp [hp]
   ·have:decide (j<k+1)=decide (j<k):=by simp only [decide_eq_decide];omega
    simp [hj,this]
  ·rename_i hp;rw [UE p k j]
   by_cases hj:k=j
   ·subst hj;simp [hp]
   ·have:decide (j<k+1)=decide (j<k):=by simp only [decide_eq_decide];omega
    simp [this]
def cls (fr s:Nat) (p:Int×Int):Prop:=(p.1.toNat=fr\/s.testBit p.1.toNat=true)->s.testBit p.2.toNat=true
end Go.Proofs.YtcpmilhkineciaaGreatDoor.K
