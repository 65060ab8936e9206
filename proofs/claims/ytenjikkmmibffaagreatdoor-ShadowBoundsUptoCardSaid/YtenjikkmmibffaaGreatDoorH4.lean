/- Declarations that the closing texts need, part 4: joined by tools/slim.py. -/
import Derived.Test.YtenjikkmmibffaaGreatDoorH3
set_option linter.unusedVariables false
set_option linter.unusedSimpArgs false
universe u
namespace Go.AM
open Go.RowKit
structure Tk {α:Sort u} (a:α):Type where
def Zu {α:Sort u} (a:α) (_:Tk a):α:=a
@[go_sem] theorem ZfT {α β:Type} {f:α->β} {t x} :Zu f t x=f x:=Zl rfl rfl
@[go_sem ↓] theorem ZfU {α β:Type} {f:α->β->Prop} {t x y} :Zu f t x y=f x y:=Zl rfl rfl
@[go_sem ↓] theorem ZfV {α β γ:Type} {f:α->β->γ->Prop} {t x y z} :Zu f t x y z=f x y z:=Zl rfl rfl
def BU (x:Option V) (K:V->Prop):Prop:=match x with | some v=>K v | none=>False
def Bu (x:Option (V×List Obj)) (K:V->List Obj->Prop):Prop:=match x with | some (v,H)=>K v H | none=>False
def bst (x:V) (K:Bool->Prop):Prop:=match x with | .p (.bool b)=>K b | _=>False
def hst (x:Option (List Obj)) (K:List Obj->Prop):Prop:=match x with | some H=>K H | none=>False
@[go_sem ↓, go_sem] theorem ZkS {v K} :BU (some v) K=K v:=Zl rfl rfl
@[go_sem ↓, go_sem] theorem Zkz {v H K} :Bu (some (v,H)) K=K v H:=Zl rfl rfl
@[go_sem ↓, go_sem] theorem Zjf {H K} :hst (some H) K=K H:=Zl rfl rfl
@[congr] theorem Zgc {x x' K} (h:x=x'):BU x K=BU x' K:=by rw [h]
@[congr] theorem Zf5 {x x' K} (h:x=x'):Bu x K=Bu x' K:=by rw [h]
@[congr] theorem ZfY {x x' K} (h:x=x'):hst x K=hst x' K:=by rw [h]
def LW (fr:List V):List V:=fr
@[go_sem] theorem ZoO {fr} :LW fr=fr:=Zl rfl rfl
section code
variable {cuts : List Nat} {P : Program} {fr : List V} {H : List Obj} {Q : Exit -> List V -> List Obj -> Prop}
@[go_sem ↓] theorem ZfH : J0 cuts P .skip fr H Q=Q .normal fr H:=Zl rfl rfl
@[go_sem ↓] theorem yN {id} {l:List Oper} :J0 cuts P (.region id l.toArray false) fr H Q=YS P (l.map (·.dst)) l (LW fr) H (Zu (Q .normal) ⟨⟩):=by rfl
@[go_sem ↓] theorem ZaR {id ops} :J0 cuts P (.region id ops true) fr H Q=AWP P (.region id (Zu ops ⟨⟩) true) fr H (Zu Q ⟨⟩):=by rfl
@[go_sem ↓] theorem Zix {x y} :J0 [] P (.seq x y) fr H Q=J0 [] P x fr H (Q5 (fun fr H=>J0 [] P y fr H Q) Q):=by
 grind [J0]
def pI (b:Bool) (A B:Prop):Prop:=if b then A else B
def Nu (cuts:List Nat):Option Nat->Bool
 | some i=>cuts.contains i
 | none=>false
@[go_sem ↓] theorem ZfG {k x y} :J0 (k::cuts) P (.seq x y) fr H Q=pI (Nu (k::cuts) (NP x)) (Zu (AWP P (.seq (Zu x ⟨⟩) (Zu y ⟨⟩)) fr H (Zu Q ⟨⟩)) ⟨⟩) (Zu (J0 (k::cuts) P x fr H (Q5 (fun fr H=>J0 (k::cuts) P y fr H Q) Q)) ⟨⟩):=by
 rfl
@[go_sem ↓, go_sem] theorem Zgf {A B:Prop} {t} :pI true (Zu A t) B=A:=by rfl
@[go_sem ↓, go_sem] theorem Zeo {A B:Prop} {t} :pI false A (Zu B t)=B:=by rfl
theorem RO {b b' A B} (h:b=b'):pI b A B=pI b' A B:=by rw [h]
@[go_sem ↓] theorem Zbm {id ops d} :NP (.region id ops d)=some id:=Zl rfl rfl
@[go_sem ↓] theorem Zm5 {x y} :NP (.seq x y)=NP x:=Zl rfl rfl
@[go_sem ↓] theorem ZfS {id c} :NP (.block id c)=NP c:=Zl rfl rfl
@[go_sem ↓] theorem Zja {c x y} :NP (.cond c x y)=none:=Zl rfl rfl
@[go_sem ↓] theorem Zjc {c} :NP (.loop c)=none:=Zl rfl rfl
@[go_sem] theorem Zba : Nu cuts none=false:=Zl rfl rfl
@[go_sem] theorem ZfM {i} :Nu [] (some i)=false:=Zl rfl rfl
@[go_sem] theorem Za9 {k i} :Nu (k::cuts) (some i)=(decide (i=k)||Nu cuts (some i)):=by rfl
@[go_sem ↓] theorem ZfC {c x y} :J0 cuts P (.cond c x y) fr H Q=US (ev fr c) (Zu (J0 cuts P x fr H Q) ⟨⟩) (Zu (J0 cuts P y fr H Q) ⟨⟩):=Zl rfl rfl
@[go_sem ↓] theorem ZaQ {id c} :J0 cuts P (.block id c) fr H Q=J0 cuts P c fr H (Je id Q):=Zl rfl rfl
@[go_sem ↓] theorem ZfD {id} :J0 cuts P (.exit id) fr H Q=Q (.exit id) fr H:=Zl rfl rfl
@[go_sem ↓] theorem Ziw : J0 cuts P .ret fr H Q=Q .ret fr H:=Zl rfl rfl
@[go_sem ↓] theorem ZfF {c} :J0 cuts P (.loop c) fr H Q=AWP P (.loop (Zu c ⟨⟩)) fr H (Zu Q ⟨⟩):=Zl rfl rfl
@[go_sem ↓] theorem ZfE {c t} :J0 cuts P (Zu c t) fr H Q=J0 cuts P c fr H Q:=Zl rfl rfl
theorem aK {c fr' H'} (h:fr=fr') (h2:H=H'):J0 cuts P c fr H Q=J0 cuts P c fr' H' Q:=by rw [h,h2]
theorem TY {c fr' H'} (h:fr=fr') (h2:H=H'):AWP P c fr H Q=AWP P c fr' H' Q:=by rw [h,h2]
@[go_sem ↓] theorem xF {A:List V->List Obj->Prop} :Q5 A Q .normal fr H=A fr H:=Zl rfl rfl
@[go_sem ↓] theorem Zex {A:List V->List Obj->Prop} {id} :Q5 A Q (.exit id) fr H=Q (.exit id) fr H:=Zl rfl rfl
@[go_sem ↓] theorem Zhi {A:List V->List Obj->Prop} :Q5 A Q .ret fr H=Q .ret fr H:=Zl rfl rfl
@[go_sem ↓] theorem qX {id} :Je id Q .normal fr H=Q .normal fr H:=Zl rfl rfl
@[go_sem ↓] theorem ZaU {id} :Je id Q .ret fr H=Q .ret fr H:=Zl rfl rfl
@[go_sem ↓] theorem yQ {id id'} :Je id Q (.exit id') fr H=if id'=id then Q .normal fr H else Q (.exit id') fr H:=Zl rfl rfl
theorem O1 {A:List V->List Obj->Prop} {e fr' H'} (h:fr=fr') (h2:H=H'):Q5 A Q e fr H=Q5 A Q e fr' H':=by rw [h,h2]
theorem Lv {id e fr' H'} (h:fr=fr') (h2:H=H'):Je id Q e fr H=Je id Q e fr' H':=by rw [h,h2]
@[go_sem ↓] theorem zV {rs} {Q:V->List Obj->Prop} :BW P rs Q .normal fr H=Bu ((WA P fr H rs).map fun xs=>(Jq xs,H)) (Zu Q ⟨⟩):=by
 simp only [BW,Zu];grind [Bu]
@[go_sem ↓] theorem ZkX {rs} {Q:V->List Obj->Prop} :BW P rs Q .ret fr H=Bu ((WA P fr H rs).map fun xs=>(Jq xs,H)) (Zu Q ⟨⟩):=by
 simp only [BW,Zu];grind [Bu]
theorem RK {rs e fr' H'} {Q:V->List Obj->Prop} (h:fr=fr') (h2:H=H'):BW P rs Q e fr H=BW P rs Q e fr' H':=by rw [h,h2]
@[go_sem] theorem Zej : WA P fr H []=some []:=Zl rfl rfl
@[go_sem] theorem Zek {t l} :WA P fr H (.tmp t::l)=(WA P fr H l).map (gt fr t:: ·):=by
 simp only [WA,dS];cases WA P fr H l<;>rfl
@[go_sem] theorem zT {a t l} :WA P fr H (.cell a t::l)=(Jx P H t (gt fr a)).bind fun x=>(WA P fr H l).map (x:: ·):=by
 simp only [WA,dS];cases Jx P H t (gt fr a)<;>cases WA P fr H l<;>rfl
@[go_sem] theorem Zel {x} :Jq [x]=x:=Zl rfl rfl
@[go_sem] theorem zU : Jq []= .tup []:=Zl rfl rfl
@[go_sem] theorem RJ {x y l} :Jq (x::y::l)= .tup (x::y::l):=Zl rfl rfl
end code
attribute [congr] RO aK TY O1 Lv RK
@[go_sem] theorem Zm3 {x:V} {l} :gt (x::l) 0=x:=Zl rfl rfl
@[go_sem] theorem Zm2 {x:V} {l n} :gt (x::l) (n+1)=gt l n:=Zl rfl rfl
@[go_sem] theorem ZoL {n} :gt [] n= .junk:=Zl rfl rfl
@[go_sem] theorem Zno {x v:V} {l} :pt (x::l) 0 v=v::l:=Zl rfl rfl
@[go_sem] theorem Znn {x v:V} {l n} :pt (x::l) (n+1) v=x::pt l n v:=Zl rfl rfl
@[go_sem] theorem ZkU {fr d v} :UQ fr (some d) v=pt fr d v:=Zl rfl rfl
@[go_sem] theorem ZkT {fr v} :UQ fr none v=fr:=Zl rfl rfl
@[go_sem] theorem ZkE {x:Obj} {l} :oat (x::l) 0=x:=Zl rfl rfl
@[go_sem] theorem ZkD {x:Obj} {l n} :oat (x::l) (n+1)=oat l n:=Zl rfl rfl
@[go_sem] theorem ZkN {x v:Obj} {l} :GD (x::l) 0 v=v::l:=Zl rfl rfl
@[go_sem] theorem ZkM {x v:Obj} {l n} :GD (x::l) (n+1) v=x::GD l n v:=Zl rfl rfl
@[go_sem] theorem ZmR {fr t} :evx fr (.tmp t)=gt fr t:=Zl rfl rfl
@[go_sem] theorem Zbg {fr g} :evx fr (.global g)=lQ g:=Zl rfl rfl
@[go_sem] theorem ZoA {fr t} :ev fr (.tmp t)=gt fr t:=Zl rfl rfl
@[go_sem] theorem ZmO {fr f} :ev fr (.func f)= .fn (.func f) [] []:=Zl rfl rfl
@[go_sem] theorem Zoy {fr k n} :ev fr (.const (.int k n))= .p (.int k n):=Zl rfl rfl
@[go_sem] theorem ZmN {fr b} :ev fr (.const (.bool b))= .p (.bool b):=Zl rfl rfl
@[go_sem] theorem Zoz {fr s} :ev fr (.const (.string s))= .p (.str s.data.toList):=Zl rfl rfl
@[go_sem] theorem ZmQ {fr} :ev fr (.const (.slice none 0 0))= .p (.list true []):=Zl rfl rfl
@[go_sem] theorem ZmP {fr} :ev fr (.const (.pointer none))= .p .nilp:=Zl rfl rfl
@[go_sem] theorem Zox {fr l} :ev fr (.const (.agg (List.toArray l)))=match cvs l with | some xs=> .p (.agg xs) | none=> .junk:=Zl rfl rfl
@[go_sem] theorem Zi3 {fr d} {l:List (Option Nat)} :Gh fr (some d::l) 0=gt fr d:=by simp [Gh]
@[go_sem] theorem Zi2 {fr o n} {l:List (Option Nat)} :Gh fr (o::l) (n+1)=Gh fr l n:=by simp [Gh]
section ops
variable {P : Program} {fr : List V} {H : List Obj} {ds : List (Option Nat)} {K : List V -> List Obj -> Prop} {r : List Oper} {d : Option Nat} {t : TypeId} {ps : String} {af : Array Edge} {g : Option (Nat × Bool)} {k : V -> List Obj -> Prop}
theorem Pu {l fr' H'} (h:fr=fr') (h2:H=H'):YS P ds l fr H K=YS P ds l fr' H' K:=by rw [h,h2]
theorem M9 {o fr' H'} (h:fr=fr') (h2:H=H'):Zy P o fr H k=Zy P o fr' H' k:=by rw [h,h2]
@[go_sem ↓] theorem Zik : YS P ds [] fr H K=K fr H:=Zl rfl rfl
@[go_sem] theorem Zfm {op} :YS P ds (⟨d,op,t,ps,af,none⟩::r) fr H K=Zy P ⟨d,op,t,ps,af,none⟩ fr H (Zu (fun x H'=>YS P ds r (UQ fr d x) H' K) ⟨⟩):=Zl rfl rfl
@[go_sem] theorem Zas {op j b} :YS P ds (⟨d,op,t,ps,af,some (j,b)⟩::r) fr H K=XU (Gh fr ds j) b (Zu (Zy P ⟨d,op,t,ps,af,none⟩ fr H (Zu (fun x H'=>YS P ds r (UQ fr d x) H' K) ⟨⟩)) ⟨⟩) (Zu (YS P ds r (UQ fr d (.tup [])) H K) ⟨⟩):=by
 rfl
theorem XV {op:Op} (h:Wc op=none) (h2:Vd P op fr H=none):Zy P ⟨d,op,t,ps,af,g⟩ fr H k=BU (Xc P op fr H) fun x=>k x H:=by
 simp only [Zy,h,MP,h2]
 all_goals (cases Xc P op fr H<;>rfl)
theorem aI {op:Op} (h:Wc op=none) (h2:Xc P op fr H=none):Zy P ⟨d,op,t,ps,af,g⟩ fr H k=Bu (Vd P op fr H) k:=by
 grind [Zy,MP,Bu]
@[go_sem ↓] theorem ZaL {x} :Zy P ⟨d,.move x,t,ps,af,g⟩ fr H k=k (ev fr x) H:=by rfl
@[go_sem ↓] theorem sI {x} :Zy P ⟨d,.assign x,t,ps,af,g⟩ fr H k=k (ev fr x) H:=by rfl
def vif (b:Bool) (x y:V):V:=if b then x else y
@[go_sem] theorem Zl0 {x y} :vif true x y=x:=Zl rfl rfl
@[go_sem] theorem Zhj {x y} :vif false x y=y:=Zl rfl rfl
@[go_sem] theorem ZlZ {b x y} :vif b (.p (.bool x)) (.p (.bool y))= .p (.bool (if b then x else y)):=by cases b<;>rfl
@[go_sem] theorem Ziq {b} :asB (.p (.bool b))=some b:=Zl rfl rfl
@[go_sem ↓] theorem ZaN {c x y} :Zy P ⟨d,.pick c x y,t,ps,af,g⟩ fr H k=BU ((asB (ev fr c)).map fun b=>vif b (ev fr x) (ev fr y)) (Zu (fun v=>k v H) ⟨⟩):=by
 rw [XV rfl rfl];simp only [Xc,Yh]
 cases asB (ev fr c)<;>rfl
@[go_sem ↓] theorem ZaK {u x} :Zy P ⟨d,.load u x,t,ps,af,g⟩ fr H k=BU (Jx P H u (ev fr x)) (Zu (fun v=>k v H) ⟨⟩):=by rw [XV rfl rfl];rfl
@[go_sem ↓] theorem iE {x} :Zy P ⟨d,.nilCheck x,t,ps,af,g⟩ fr H k=BU (if WB H (ev fr x)||mC (ev fr x) then some (ev fr x) else none) (Zu (fun v=>k v H) ⟨⟩):=by rw [XV rfl rfl];rfl
@[go_sem ↓] theorem Zfv {op u x y u2} :Zy P ⟨d,.binOp op u x y u2,t,ps,af,g⟩ fr H k=BU ((Ys P op u (ev fr x) (ev fr y)).map .p) (Zu (fun v=>k v H) ⟨⟩):=by rw [XV rfl rfl];rfl
@[go_sem ↓] theorem Ziu {op u x} :Zy P ⟨d,.unOp op u x,t,ps,af,g⟩ fr H k=BU ((aun op (ev fr x)).map .p) (Zu (fun v=>k v H) ⟨⟩):=by rw [XV rfl rfl];rfl
def nF (x y:Option PV):Option PV:=match x with | some z=>some z | none=>y
@[go_sem] theorem Zd1 {z y} :nF (some z) y=some z:=Zl rfl rfl
@[go_sem] theorem Zd0 {y} :nF none y=y:=Zl rfl rfl
@[go_sem ↓] theorem ZaJ {s u x} :Zy P ⟨d,.convert s u x,t,ps,af,g⟩ fr H k=BU ((nF (DB P H s u (ev fr x)) (MV P s u (ev fr x))).map .p) (Zu (fun v=>k v H) ⟨⟩):=by
 rw [XV rfl rfl];simp only [Xc,Yh]
 cases DB P H s u (ev fr x)<;>rfl
@[go_sem ↓] theorem iD {f cs es} :Zy P ⟨d,.makeFunc f (List.toArray cs) (List.toArray es),t,ps,af,g⟩ fr H k=k (.fn f (cs.map (ev fr)) (es.map (ev fr))) H:=by rfl
@[go_sem ↓] theorem yL {u x lo hi mx} :Zy P ⟨d,.slice u x lo hi mx,t,ps,af,g⟩ fr H k=BU (Vl P H u fr (ev fr x) lo hi mx) (Zu (fun v=>k v H) ⟨⟩):=by rw [XV rfl rfl];rfl
@[go_sem ↓] theorem fK {s x f} :Zy P ⟨d,.fieldAddr s x f,t,ps,af,g⟩ fr H k=BU (JW P H s f (ev fr x)) (Zu (fun v=>k v H) ⟨⟩):=by rw [XV rfl rfl];rfl
@[go_sem ↓] theorem fL {u x i} :Zy P ⟨d,.indexAddr u x i,t,ps,af,g⟩ fr H k=BU (Q9 P H u (evx fr x) (ev fr i)) (Zu (fun v=>k v H) ⟨⟩):=by rw [XV rfl rfl];rfl
@[go_sem ↓] theorem yK {u x i} :Zy P ⟨d,.index u x i,t,ps,af,g⟩ fr H k=BU (MX P u (ev fr x) (ev fr i)) (Zu (fun v=>k v H) ⟨⟩):=by rw [XV rfl rfl];rfl
def axt (x:V) (i:Nat):Option V:=match x with | .tup vs=>vs[i]? | _=>none
@[go_sem] theorem Zmv {vs i} :axt (.tup vs) i=vs[i]? :=Zl rfl rfl
@[go_sem ↓] theorem qV {x i} :Zy P ⟨d,.extract x i,t,ps,af,g⟩ fr H k=BU (axt (ev fr x) i) (Zu (fun v=>k v H) ⟨⟩):=by
 rw [XV rfl rfl]
 rfl
@[go_sem ↓] theorem yJ {u l} :Zy P ⟨d,.build u (List.toArray l),t,ps,af,g⟩ fr H k=BU (FF P H u (l.map fun x=>(x.1,ev fr x.2))) (Zu (fun v=>k v H) ⟨⟩):=by rw [XV rfl rfl];rfl
@[go_sem ↓] theorem Zfx {x u} :Zy P ⟨d,.call ⟨.builtin .len,#[x],#[u]⟩,t,ps,af,g⟩ fr H k=BU ((gS P H u (ev fr x)).map .p) (Zu (fun v=>k v H) ⟨⟩):=by rw [XV rfl rfl];rfl
@[go_sem ↓] theorem Zfy {x y us} :Zy P ⟨d,.call ⟨.builtin .max,#[x,y],us⟩,t,ps,af,g⟩ fr H k=BU ((Lf false [ev fr x,ev fr y]).map .p) (Zu (fun v=>k v H) ⟨⟩):=by
 rw [XV rfl rfl];rfl
@[go_sem ↓] theorem yI {u} :Zy P ⟨d,.alloc u,t,ps,af,g⟩ fr H k=Bu ((Xg P u).map fun zs=>(.ptr H.length 0,H++ [.cells (zs.map .p)])) (Zu k ⟨⟩):=by rfl
@[go_sem ↓] theorem Zfw {u x} :Zy P ⟨d,.box u x,t,ps,af,g⟩ fr H k=Bu ((vc H (ev fr x)).map fun cs=>(.ptr H.length 0,H++ [.cells cs])) (Zu k ⟨⟩):=by rfl
def ZaP (H:List Obj) (n:Option Nat) (a:V) (cs:Option (List V)):Option (List Obj):=n.bind fun n=>cs.bind fun cs=>BC H n a cs
@[go_sem] theorem ZfA {n a cs} :ZaP H (some n) a (some cs)=BC H n a cs:=Zl rfl rfl
@[go_sem ↓] theorem yM {u x y} :Zy P ⟨d,.store u x y,t,ps,af,g⟩ fr H k=hst (ZaP H (Y8 P u) (ev fr x) (vc H (ev fr y))) (Zu (k .junk) ⟨⟩):=by
 rw [aI rfl rfl];simp only [Vd,ZaP]
 cases Y8 P u<;>cases vc H (ev fr y)<;>simp [hst,Bu,Zu]
 grind
@[go_sem ↓] theorem aH {u n l} :Zy P ⟨d,.buildSlice u n (List.toArray l),t,ps,af,g⟩ fr H k=Bu (Vd P (.buildSlice u n (List.toArray l)) fr H) (Zu k ⟨⟩):=by rfl
@[go_sem ↓] theorem qW {u} :Zy P ⟨d,.makeMap u none,t,ps,af,g⟩ fr H k=k (.mp H.length) (H++ [.map []]):=by rfl
@[go_sem ↓] theorem sJ {u x y ok} :Zy P ⟨d,.lookup u x y ok,t,ps,af,g⟩ fr H k=Bu (Ck P H u (ev fr x) (ev fr y) ok) (Zu k ⟨⟩):=by rfl
@[go_sem ↓] theorem ZaM {u x y z} :Zy P ⟨d,.mapUpdate u x y z,t,ps,af,g⟩ fr H k=Bu (Es P H u (ev fr x) (ev fr y) (ev fr z)) (Zu k ⟨⟩):=by rfl
@[go_sem ↓] theorem fM {u x y} :Zy P ⟨d,.makeSlice u x y,t,ps,af,g⟩ fr H k=Bu (Vd P (.makeSlice u x y) fr H) (Zu k ⟨⟩):=by rfl
@[go_sem ↓] theorem sH {x y u u2} :Zy P ⟨d,.call ⟨.builtin .append,#[x,y],#[u,u2]⟩,t,ps,af,g⟩ fr H k=Bu (Vc P H u u2 (ev fr x) (ev fr y)) (Zu k ⟨⟩):=by rfl
@[go_sem ↓] theorem ZaI {f azs ts} :Zy P ⟨d,.call ⟨.value f,List.toArray azs,ts⟩,t,ps,af,g⟩ fr H k=Er P (ev fr f) (azs.map (ev fr)) H (Zu k ⟨⟩):=Zl rfl rfl
@[go_sem ↓] theorem Zh9 {f fs cs azs} :Er P (.fn (.func f) fs cs) azs H k=ACalls P f (fs++azs++cs) H k:=Zl rfl rfl
@[go_sem ↓] theorem ZeY {f azs} :Er P (.p (.fn f)) azs H k=ACalls P f azs H k:=Zl rfl rfl
theorem MT {f f' azs as'} (h:f=f') (h2:azs=as'):Er P f azs H k=Er P f' as' H k:=by rw [h,h2]
theorem I4 {f azs as' H'} (h2:azs=as') (h3:H=H'):ACalls P f azs H k=ACalls P f as' H' k:=by rw [h2,h3]
theorem MU {x x' A B} (h:x=x'):US x A B=US x' A B:=by rw [h]
theorem Lc {x x' b A B} (h:x=x'):XU x b A B=XU x' b A B:=by rw [h]
@[go_sem ↓, go_sem] theorem Zah {A:Prop} {t B'} :US (.p (.bool true)) (Zu A t) B'=A:=by simp [US,Zu]
@[go_sem ↓, go_sem] theorem xW {B:Prop} {t B'} :US (.p (.bool false)) B' (Zu B t)=B:=by simp [US,Zu]
@[go_sem ↓, go_sem] theorem Ze8 {A:Prop} {t B} :XU (.p (.bool true)) true (Zu A t) B=A:=by simp [XU,Zu]
@[go_sem ↓, go_sem] theorem Ze7 {B:Prop} {t A} :XU (.p (.bool true)) false A (Zu B t)=B:=by simp [XU,Zu]
@[go_sem ↓, go_sem] theorem Ze6 {B:Prop} {t A} :XU (.p (.bool false)) true A (Zu B t)=B:=by simp [XU,Zu]
@[go_sem ↓, go_sem] theorem Ze5 {A:Prop} {t B} :XU (.p (.bool false)) false (Zu A t) B=A:=by simp [XU,Zu]
@[go_sem ↓, go_sem] theorem xY {b} {B:Prop} {t A} :XU (.tup []) b A (Zu B t)=B:=by rfl
theorem U0 {c:Bool} {A B:Prop} {t t'} (h1:c=true->A) (h2:c=false->B):US (.p (.bool c)) (Zu A t) (Zu B t'):=⟨h1,h2⟩
theorem VE {c:Bool} {A B:Prop} {t t'} (h1:c=true->A) (h2:c=false->B):XU (.p (.bool c)) true (Zu A t) (Zu B t'):=⟨h1,fun h=>h2 (by simpa using h)⟩
theorem Up {c:Bool} {A B:Prop} {t t'} (h1:c=true->B) (h2:c=false->A):XU (.p (.bool c)) false (Zu A t) (Zu B t'):=⟨h2,fun h=>h1 (by simpa using h)⟩
theorem Zc {P Q:Prop} (h:Q) (e:Q->P:=by intro h;simp (disch:=omega) only [go_sem,seval];exact h):P:=e h
class Dc (c:Bool) (p q:outParam Prop):Prop where
 t:c=true->p
 f:c=false->q
instance dcD {p : Prop} [Decidable p] : Dc (decide p) p (¬p) := ⟨AQ, of_decide_eq_false⟩
instance (priority := low) dcB {c : Bool} : Dc c (c = true) (c = false) := ⟨id, id⟩
theorem cD {c:Bool} {A B p q:Prop} {t t'} [d:Dc c p q] (h1:p->A) (h2:q->B):US (.p (.bool c)) (Zu A t) (Zu B t'):=U0 (fun h=>h1 (d.t h)) (fun h=>h2 (d.f h))
theorem gT {c:Bool} {A B p q:Prop} {t t'} [d:Dc c p q] (h1:p->A) (h2:q->B):XU (.p (.bool c)) true (Zu A t) (Zu B t'):=VE (fun h=>h1 (d.t h)) (fun h=>h2 (d.f h))
theorem gF {c:Bool} {A B p q:Prop} {t t'} [d:Dc c p q] (h1:p->B) (h2:q->A):XU (.p (.bool c)) false (Zu A t) (Zu B t'):=Up (fun h=>h1 (d.t h)) (fun h=>h2 (d.f h))
@[go_sem] theorem Znj {p:Prop} [Decidable p]:(!decide p)=decide (¬p):=Zb
end ops
attribute [congr] Pu M9 MT I4 MU Lc
section vals
variable {P : Program} {H : List Obj} {k : IntKind} {t u : TypeId}
@[go_sem] theorem ZhY {a b} :Ys P .add t (.p (.int k a)) (.p (.int k b))=some (.int k (k.wrap (a+b))):=by simp [Ys,Jk]
@[go_sem] theorem Zh8 {a b} :Ys P .sub t (.p (.int k a)) (.p (.int k b))=some (.int k (k.wrap (a-b))):=by simp [Ys,Jk]
@[go_sem] theorem gB {a b} :Ys P .mul t (.p (.int k a)) (.p (.int k b))=some (.int k (k.wrap (a*b))):=by simp [Ys,Jk]
@[go_sem] theorem gD {a b} (h:b≠0):Ys P .quo t (.p (.int k a)) (.p (.int k b))=some (.int k (k.wrap (a.tdiv b))):=by simp [Ys,Jk,h]
@[go_sem] theorem Zh6 {a b} (h:b≠0):Ys P .rem t (.p (.int k a)) (.p (.int k b))=some (.int k (a.tmod b)):=by simp [Ys,Jk,h]
@[go_sem] theorem gA {a b} :Ys P .and t (.p (.int k a)) (.p (.int k b))=some (.int k (k.wrap ((BitVec.ofInt k.bits a&&&BitVec.ofInt k.bits b).toNat:Int))):=by simp [Ys,Jk]
@[go_sem] theorem R8 {a b} :Ys P .or t (.p (.int k a)) (.p (.int k b))=some (.int k (k.wrap ((BitVec.ofInt k.bits a|||BitVec.ofInt k.bits b).toNat:Int))):=by simp [Ys,Jk]
@[go_sem] theorem xU {a b} :Ys P .andNot t (.p (.int k a)) (.p (.int k b))=some (.int k (k.wrap ((BitVec.ofInt k.bits a&&& ~~~(BitVec.ofInt k.bits b)).toNat:Int))):=by simp [Ys,Jk]
@[go_sem] theorem Zh0 {a b} :Ys P .eql t (.p (.int k a)) (.p (.int k b))=some (.bool (decide (a=b))):=by simp [Ys,Jk]
@[go_sem] theorem Zh5 {a b} :Ys P .neq t (.p (.int k a)) (.p (.int k b))=some (.bool (decide (¬a=b))):=by simp [Ys,Jk]
@[go_sem] theorem Zh4 {a b} :Ys P .lss t (.p (.int k a)) (.p (.int k b))=some (.bool (decide (a<b))):=by simp [Ys,Jk]
@[go_sem] theorem Zh3 {a b} :Ys P .leq t (.p (.int k a)) (.p (.int k b))=some (.bool (decide (a<=b))):=by simp [Ys,Jk]
@[go_sem] theorem Zh2 {a b} :Ys P .gtr t (.p (.int k a)) (.p (.int k b))=some (.bool (decide (b<a))):=by simp [Ys,Jk]
@[go_sem] theorem Zh1 {a b} :Ys P .geq t (.p (.int k a)) (.p (.int k b))=some (.bool (decide (b<=a))):=by simp [Ys,Jk]
@[go_sem] theorem gE {a b k'} (h:0<=b):Ys P .shl t (.p (.int k a)) (.p (.int k' b))=some (.int k (k.wrap (a*2^(min b.toNat k.bits)))):=by grind [Ys,Jk]
@[go_sem] theorem gG {a b k'} (h:0<=b):Ys P .shr t (.p (.int k a)) (.p (.int k' b))=some (.int k (a.fdiv (2^(min b.toNat k.bits)))):=by grind [Ys,Jk]
@[go_sem] theorem Zh7 {op a b} :Ys P op t (.p (.str a)) (.p (.str b))=Mz op a b:=Zl rfl rfl
@[go_sem] theorem Zk0 {a b} :Mz .eql a b=some (.bool (decide (a=b))):=Zl rfl rfl
@[go_sem] theorem Zk1 {a b} :Mz .neq a b=some (.bool (decide (¬a=b))):=by simp [Mz]
@[go_sem] theorem pE {a b} (h:a.length+b.length<=9223372036854775807):Mz .add a b=some (.str (a++b)):=by simp [Mz,h]
def ZrT (op:BinOp) (u:Option TypeDesc) (a b:Bool):Option PV:=match op,u with
  | .eql,some .bool=>some (.bool (a==b))
  | .neq,some .bool=>some (.bool (!(a==b)))
  | _,_=>none
end vals
attribute [irreducible] BU Bu hst bst
end Go.AM
namespace Go.AM
open Go.RowKit
section vals
variable {P : Program} {H : List Obj} {k : IntKind} {t u : TypeId}
def Zbi (g:Bool) (op:BinOp) (r:Option Bool):Option PV:=if g then none else match op with
 | .eql=>r.map .bool
 | .neq=>r.map fun r=> .bool (!r)
 | _=>none
@[go_sem] theorem ZhZ {op a b} :Ys P op t (.p (.agg a)) (.p (.agg b))=Zbi (P.eqGuardType P.depth t) op (VD P 9 t (.agg a) (.agg b)):=Zl rfl rfl
@[go_sem] theorem Zi4 {b} :Zbi false .eql (some b)=some (.bool b):=Zl rfl rfl
@[go_sem] theorem Zi5 {b} :Zbi false .neq (some b)=some (.bool (!b)):=Zl rfl rfl
def Hn (P:Program) (d:Nat) (t:TypeId) (D:Option TypeDesc) (x y:PV):Option Bool:=match D,x,y with
  | some .bool,.bool a,.bool b=>some (a==b)
  | some (.int _),.int k a,.int k' b=>if k=k' then some (decide (a=b)) else none
  | some .string,.str a,.str b=>some (decide (a=b))
  | some (.struct fs),.agg a,.agg b=>if P.stoodInHeld t then none else Cd (VD P d) P fs.toList a b
  | some (.array n e),.agg a,.agg b=>match Y8 P e with | some m=>T3 (VD P d e) P e m n 0 a b | none=>none
  | _,_,_=>none
@[go_sem] theorem Ze2 {d x y} :VD P (d+1) t x y=Hn P d t (P.underlying t) x y:=Zl rfl rfl
@[go_sem] theorem Ze1 {d a b} :Hn P d t (some .bool) (.bool a) (.bool b)=some (a==b):=Zl rfl rfl
@[go_sem] theorem Zib {d k0 a b} :Hn P d t (some (.int k0)) (.int k a) (.int k b)=some (decide (a=b)):=by simp [Hn]
theorem QM {d fs a b} (h:P.stoodInHeld t=false):Hn P d t (some (.struct fs)) (.agg a) (.agg b)=Cd (VD P d) P fs.toList a b:=by simp [Hn,h]
def ER (x y:Option Bool):Option Bool:=x.bind fun p=>y.map fun q=>p&&q
@[go_sem] theorem Zf9 {p q} :ER (some p) (some q)=some (p&&q):=Zl rfl rfl
def fO (f:PV->PV->Option Bool) (x y:Option PV):Option Bool:=x.bind fun x=>y.bind fun y=>f x y
@[go_sem] theorem ZiU {f x y} :fO f (some x) (some y)=f x y:=Zl rfl rfl
@[go_sem] theorem Ce {f a b} :Cd f P [] a b=some true:=Zl rfl rfl
@[go_sem] theorem Av {f fi r a b} : Cd f P (fi :: r) a b = if fi.name = "_" then Cd f P r a b else ER (fO (f fi.type) (apart P fi.type a fi.offset) (apart P fi.type b fi.offset)) (Cd f P r a b) := by
 simp only [Cd]
 split
 ·rfl
 ·cases apart P fi.type a fi.offset<;>cases apart P fi.type b fi.offset<;>simp [fO,ER]
  rename_i x y
  cases f fi.type x y<;>cases Cd f P r a b<;>rfl
def Zim (g:Option Bool) (s:Option Nat) (cs:List PV) (off:Nat):Option PV:=match g,s with
 | some true,some n=>if off+n<=cs.length then some (.agg ((cs.drop off).take n)) else none
 | some false,_=>cs[off]?
 | _,_=>none
@[go_sem] theorem Zil {cs off} :apart P t cs off=Zim (XQ P t) (Y8 P t) cs off:=Zl rfl rfl
@[go_sem] theorem Zin {s cs off} :Zim (some false) s cs off=cs[off]? :=Zl rfl rfl
def Pq (g:Option Bool) (s:Option Nat) (H:List Obj) (x:V):Option V:=match g,s with
 | some true,some n=>(UG H x n).map mkA
 | some false,_=>match UG H x 1 with
  | some (c::_)=>some c
  | _=>none
 | _,_=>none
def hdO (x:Option (List V)):Option V:=match x with | some (c::_)=>some c | _=>none
@[go_sem] theorem Zi9 {c l} :hdO (some (c::l))=some c:=Zl rfl rfl
@[go_sem] theorem Zig {x} :Jx P H t x=Pq (XQ P t) (Y8 P t) H x:=Zl rfl rfl
@[go_sem] theorem Zar {s x} :Pq (some false) s H x=hdO (UG H x 1):=by rfl
@[go_sem] theorem Zaq {n x} :Pq (some true) (some n) H x=(UG H x n).map mkA:=Zl rfl rfl
@[go_sem] theorem Ze0 {x j n} :UG H (.lp x j) n=if j+n<=x.cells.length then some (((x.cells.drop j).take n).map .p) else none:=Zl rfl rfl
def oA (ob:Obj) (off n:Nat):Option (List V):=match ob with | .cells cs=>if off+n<=cs.length then some ((cs.drop off).take n) else none | _=>none
@[go_sem] theorem Zag {o off n} :UG H (.ptr o off) n=oA (oat H o) off n:=Zl rfl rfl
@[go_sem] theorem vT {cs off n} :oA (.cells cs) off n=if off+n<=cs.length then some ((cs.drop off).take n) else none:=Zl rfl rfl
def jZ (ob:Obj) (i j tot n:Nat):Option (List V):=match ob with
 | .elems _ xs=>if xs.length=tot/\i<xs.length/\j+n<=(KX xs i).cells.length then some ((((KX xs i).cells.drop j).take n).map .p) else none
 | _=>none
@[go_sem] theorem ZeZ {o i j tot n} :UG H (.ep o i j tot) n=jZ (oat H o) i j tot n:=Zl rfl rfl
@[go_sem] theorem tJ {S xs i j tot n} :jZ (.elems S xs) i j tot n=if xs.length=tot/\i<xs.length/\j+n<=(KX xs i).cells.length then some ((((KX xs i).cells.drop j).take n).map .p) else none:=Zl rfl rfl
@[go_sem] theorem ZfI {cs} :(PV.agg cs).cells=cs:=Zl rfl rfl
@[go_sem] theorem ZfK {n} :(PV.int k n).cells= [.int k n]:=Zl rfl rfl
@[go_sem] theorem Za0 {b} :(PV.bool b).cells= [.bool b]:=Zl rfl rfl
@[go_sem] theorem ZfL {s} :(PV.str s).cells= [.str s]:=Zl rfl rfl
@[go_sem] theorem Za1 {c xs} :(PV.list c xs).cells= [.list c xs]:=Zl rfl rfl
@[go_sem] theorem Znl {n} :(PV.int k n).one=true:=Zl rfl rfl
@[go_sem] theorem ZkK {b} :(PV.bool b).one=true:=Zl rfl rfl
@[go_sem] theorem Znm {s} :(PV.str s).one=true:=Zl rfl rfl
@[go_sem] theorem ZkL {c xs} :(PV.list c xs).one=true:=Zl rfl rfl
@[go_sem] theorem Zo5 {cs} :mkA cs=match QJ cs with | some ps=> .p (.agg ps) | none=> .agg cs:=Zl rfl rfl
@[go_sem] theorem Zif : QJ []=some []:=Zl rfl rfl
@[go_sem] theorem Zfe {x r} :QJ (.p x::r)=(QJ r).map (x:: ·):=by rfl
def E3 (n:Option Nat) (a:Bool) (x:V):Option V:=match n with | some n=>if a then some (Cl n x) else none | none=>none
@[go_sem] theorem Ze3 {s f x} :JW P H s f x=E3 (ZU P s f) (WB H x) x:=Zl rfl rfl
@[go_sem] theorem rG {n x} :E3 (some n) true x=some (Cl n x):=Zl rfl rfl
@[go_sem] theorem Zij {n x j} :Cl n (.lp x j)= .lp x (j+n):=Zl rfl rfl
@[go_sem] theorem Zfj {n o off} :Cl n (.ptr o off)= .ptr o (off+n):=Zl rfl rfl
@[go_sem] theorem Zii {n o i j tot} :Cl n (.ep o i j tot)= .ep o i (j+n) tot:=Zl rfl rfl
def SV (ob:Obj):Bool:=match ob with | .cells _=>true | _=>false
@[go_sem] theorem rA {cs} :SV (.cells cs)=true:=Zl rfl rfl
def SX (ob:Obj) (tot:Nat):Bool:=match ob with | .elems _ xs=>decide (xs.length=tot) | _=>false
@[go_sem] theorem rB {S xs tot} :SX (.elems S xs) tot=decide (xs.length=tot):=Zl rfl rfl
def S0 (ob:Obj) (tot:Nat):Bool:=match ob with | .elems _ xs=>decide (xs.length=tot) | .cells _=>true | _=>false
@[go_sem] theorem zD {S xs tot} :S0 (.elems S xs) tot=decide (xs.length=tot):=Zl rfl rfl
@[go_sem] theorem zC {cs tot} :S0 (.cells cs) tot=true:=Zl rfl rfl
@[go_sem] theorem Zie {x j} :WB H (.lp x j)=true:=Zl rfl rfl
@[go_sem] theorem Zao {o off} :WB H (.ptr o off)=SV (oat H o):=Zl rfl rfl
@[go_sem] theorem Zid {o i j tot} :WB H (.ep o i j tot)=SX (oat H o) tot:=Zl rfl rfl
def U2 (e:Option (Option Nat×Nat)) (H:List Obj) (x i:V):Option V:=match e,i with
 | some (none,S),.p (.int _ n)=>match x with
  | .p (.list _ xs)=>if 0<=n/\n<xs.length then (if (KX xs n.toNat).cells.length=S then some (.lp (KX xs n.toNat) 0) else none) else none
  | .sl o off len tot=>match oat H o with
   | .elems S' xs=>if xs.length=tot/\S'=S then (if 0<=n/\n<len then some (.ep o (off+n.toNat) 0 tot) else none) else none
   | .cells _=>if S=1/\off=0/\len=tot/\0<=n/\n<len then some (.ptr o n.toNat) else none
   | _=>none
  | _=>none
 | some (some k,S),.p (.int _ n)=>if 0<=n/\n<k then (if WB H x then some (Cl (n.toNat*S) x) else none) else none
 | _,_=>none
@[go_sem] theorem Zfa {x i} :Q9 P H t x i=U2 (Wj P t) H x i:=Zl rfl rfl
theorem Ld {S c xs n} (h0:0<=n) (h1:n<(List.length xs:Int)):U2 (some (none,S)) H (.p (.list c xs)) (.p (.int k n))=if (KX xs n.toNat).cells.length=S then some (.lp (KX xs n.toNat) 0) else none:=by
 simp_all [U2]
def nth {α:Type} [Inhabited α] (l:List α) (i:Nat):α:=l.getD i default
theorem U4 {α:Type} [Inhabited α] {f:α->PV} {l:List α} {i:Nat} (h:i<l.length):KX (l.map f) i=f (nth l i):=by
 simp [KX,nth,h]
theorem Zh {α:Type} [Inhabited α] {l:List α} {i:Nat} (h:i<l.length):nth l i=l[i]:=by simp [nth,h]
@[go_sem] theorem yA {α:Type} [Inhabited α] {f:α->PV} {l:List α} {S c n} (h0:0<=n) (h1:n<(l.length:Int)) :
  U2 (some (none,S)) H (.p (.list c (l.map f))) (.p (.int k n))=if (f (nth l n.toNat)).cells.length=S then some (.lp (f (nth l n.toNat)) 0) else none:=by
 grind [Ld,U4]
def G1 (ob:Obj) (S o off len tot:Nat) (n:Int):Option V:=match ob with
 | .elems S' xs=>if xs.length=tot/\S'=S then (if 0<=n/\n<len then some (.ep o (off+n.toNat) 0 tot) else none) else none
 | .cells _=>if S=1/\off=0/\len=tot/\0<=n/\n<len then some (.ptr o n.toNat) else none
 | _=>none
@[go_sem] theorem Zak {S o off len tot n} :U2 (some (none,S)) H (.sl o off len tot) (.p (.int k n))=G1 (oat H o) S o off len tot n:=Zl rfl rfl
@[go_sem] theorem Zgh {S xs o off} {len tot:Nat} {n:Int} (h0:0<=n) (h1:n<(len:Int)) (ht:xs.length=tot):G1 (.elems S xs) S o off len tot n=some (.ep o (off+n.toNat) 0 tot):=by
 grind [G1]
@[go_sem] theorem wS {cs o} {len:Nat} {n:Int} (h0:0<=n) (h1:n<(len:Int)):G1 (.cells cs) 1 o 0 len len n=some (.ptr o n.toNat):=by
 grind [G1]
@[go_sem] theorem xZ {n} {m S:Nat} {x} (h0:0<=n) (h1:n<(m:Int)):U2 (some (some m,S)) H x (.p (.int k n))=E3 (some (n.toNat*S)) (WB H x) x:=by
 simp_all [U2,E3]
def R9 (H:List Obj) (D:Option TypeDesc) (x:V):Option PV:=match D,x with
 | some (.slice _),.p (.list _ xs)=>some (.int .i64 xs.length)
 | some (.slice _),.sl o _ len tot=>match oat H o with
  | .elems _ xs=>if xs.length=tot then some (.int .i64 len) else none
  | _=>none
 | some .string,.p (.str s)=>some (.int .i64 s.length)
 | some (.array n _),_=>some (.int .i64 n)
 | _,_=>none
@[go_sem] theorem Zmm {x} :gS P H t x=R9 H (P.underlying t) x:=Zl rfl rfl
@[go_sem] theorem Zal {e c xs} :R9 H (some (.slice e)) (.p (.list c xs))=some (.int .i64 (List.length xs)):=Zl rfl rfl
def Zk4 (ob:Obj) (len tot:Nat):Option PV:=match ob with | .elems _ xs=>if xs.length=tot then some (.int .i64 len) else none | _=>none
@[go_sem] theorem Zic {e o off len tot} :R9 H (some (.slice e)) (.sl o off len tot)=Zk4 (oat H o) len tot:=Zl rfl rfl
@[go_sem] theorem Zeq {S xs len tot} :Zk4 (.elems S xs) len tot=if xs.length=tot then some (.int .i64 len) else none:=Zl rfl rfl
@[go_sem] theorem Zfd {s} :R9 H (some .string) (.p (.str s))=some (.int .i64 (List.length s)):=Zl rfl rfl
@[go_sem] theorem Zmu {b} :aun .not (.p (.bool b))=some (.bool (!b)):=Zl rfl rfl
@[go_sem] theorem Zmt {n} :aun .neg (.p (.int k n))=some (.int k (k.wrap (0-n))):=Zl rfl rfl
def gJ (D E:Option TypeDesc) (x:V):Option PV:=match D,E,x with
 | some _,some (.int k),.p (.int _ n)=>some (.int k (k.wrap n))
 | some (.int _),some .string,.p (.int _ n)=>if 0<=n/\n<128 then some (.str [UInt8.ofNat n.toNat]) else none
 | some .string,some .string,.p (.str b)=>some (.str b)
 | _,_,_=>none
@[go_sem] theorem Zia {s x} :MV P s t x=gJ (P.underlying s) (P.underlying t) x:=Zl rfl rfl
@[go_sem] theorem Zai {D k' n} :gJ (some D) (some (.int k)) (.p (.int k' n))=some (.int k (k.wrap n)):=by rfl
def La (E:Option TypeDesc) (H:List Obj) (x:V):Option PV:=match E,x with
  | some (.int .u8),.p (.list _ xs)=>(Wb xs).map .str
  | some (.int .u8),.sl o off len tot=>match oat H o with
   | .elems _ xs=>if xs.length=tot/\off+len<=tot then (Wb ((xs.take (off+len)).drop off)).map .str else none
   | _=>none
  | _,_=>none
def I9 (P:Program) (H:List Obj) (D E:Option TypeDesc) (x:V):Option PV:=match D,E with
 | some (.slice e),some .string=>La (P.underlying e) H x
 | _,_=>none
@[go_sem] theorem ZeX {s x} :DB P H s t x=I9 P H (P.underlying s) (P.underlying t) x:=Zl rfl rfl
@[go_sem] theorem xV {E x} :I9 P H (some (.int k)) E x=none:=Zl rfl rfl
@[go_sem] theorem qR {e x} :I9 P H (some (.slice e)) (some .string) x=La (P.underlying e) H x:=Zl rfl rfl
def pG (ob:Obj) (off len tot:Nat):Option PV:=match ob with | .elems _ xs=>if xs.length=tot/\off+len<=tot then (Wb ((xs.take (off+len)).drop off)).map .str else none | _=>none
@[go_sem] theorem Zaf {o off len tot} :La (some (.int .u8)) H (.sl o off len tot)=pG (oat H o) off len tot:=Zl rfl rfl
@[go_sem] theorem wN {S xs off len tot} :pG (.elems S xs) off len tot=if xs.length=tot/\off+len<=tot then (Wb ((xs.take (off+len)).drop off)).map .str else none:=Zl rfl rfl
@[go_sem] theorem yR : Wb []=some []:=Zl rfl rfl
@[go_sem] theorem sR {n r} :Wb (.int .u8 n::r)=(Wb r).map (UInt8.ofNat n.toNat:: ·):=by rfl
@[go_sem] theorem ZnP {a b:Int} (h:0<=a):a.tdiv b=a / b:=Int.tdiv_eq_ediv_of_nonneg h
@[go_sem] theorem Zn2 {a b:Int} (h:0<=a):a.tmod b=a%b:=Int.tmod_eq_emod_of_nonneg h
@[go_sem] theorem ZqC {cs} :vc H (.p (.agg cs))=if cs.all (·.one)=true then some (cs.map .p) else none:=by rfl
@[go_sem] theorem Zn3 {cs} :vc H (.agg cs)=if cs.all (V.one H)=true then some cs else none:=by rfl
@[go_sem] theorem ZqD {n} :vc H (.p (.int k n))=some [.p (.int k n)]:=Zl rfl rfl
@[go_sem] theorem Zn4 {n} :vc H (.p (.bool n))=some [.p (.bool n)]:=Zl rfl rfl
@[go_sem] theorem ZqE {n} :vc H (.p (.str n))=some [.p (.str n)]:=Zl rfl rfl
@[go_sem] theorem Zn5 {c xs} :vc H (.p (.list c xs))=some [.p (.list c xs)]:=Zl rfl rfl
@[go_sem] theorem ZrR {o off len tot} :vc H (.sl o off len tot)=if S0 (oat H o) tot=true then some [.sl o off len tot] else none:=Zl rfl rfl
@[go_sem] theorem ZqF {x} :V.one H (.p x)=x.one:=Zl rfl rfl
@[go_sem] theorem Zn8 {o off len tot} :V.one H (.sl o off len tot)=S0 (oat H o) tot:=Zl rfl rfl
@[go_sem] theorem Zn7 {o} :V.one H (.mp o)=SY (oat H o):=Zl rfl rfl
@[go_sem] theorem ZrQ {o} :vc H (.mp o)=if SY (oat H o)=true then some [.mp o] else none:=Zl rfl rfl
@[go_sem] theorem ZfZ {es} :SY (.map es)=true:=Zl rfl rfl
@[go_sem] theorem MD {α:Type} {n} {cs:List α} :Ju ([]:List α) n cs= []:=by rfl
@[go_sem] theorem Zk9 {α:Type} {x c:α} {l cs} :Ju (x::l) 0 (c::cs)=c::Ju l 0 cs:=by simp [Ju]
@[go_sem] theorem Zgi {α:Type} {x:α} {l} :Ju (x::l) 0 []=x::l:=by simp [Ju]
@[go_sem] theorem Zk8 {α:Type} {x:α} {l cs n} :Ju (x::l) (n+1) cs=x::Ju l n cs:=by simp [Ju]
def oM (H:List Obj) (o:Nat) (ob:Obj) (off n:Nat) (cs:List V):Option (List Obj):=match ob with
 | .cells old=>if off+n<=old.length then some (GD H o (.cells (Ju old off cs))) else none
 | _=>none
@[go_sem] theorem ZaO {n o off cs} :BC H n (.ptr o off) cs=if cs.length=n then oM H o (oat H o) off n cs else none:=Zl rfl rfl
@[go_sem] theorem wA {o old off n cs} :oM H o (.cells old) off n cs=if off+n<=old.length then some (GD H o (.cells (Ju old off cs))) else none:=Zl rfl rfl
def PZ (H:List Obj) (o:Nat) (ob:Obj) (i j tot n:Nat) (ps:Option (List PV)):Option (List Obj):=match ob,ps with
 | .elems S xs,some ps=>if xs.length=tot/\i<xs.length/\j+n<=(KX xs i).cells.length/\ps.all (·.one)=true/\(KX xs i).cells.all (·.one)=true then
   some (GD H o (.elems S (xs.set i (mR (KX xs i) (Ju (KX xs i).cells j ps))))) else none
 | _,_=>none
@[go_sem] theorem Zfz {n o i j tot cs} :BC H n (.ep o i j tot) cs=if cs.length=n then PZ H o (oat H o) i j tot n (QJ cs) else none:=Zl rfl rfl
@[go_sem] theorem Zbf {α:Type} [Inhabited α] {f:α->PV} {l:List α} {o S i j tot n ps} (ht:l.length=tot) (hi:i<l.length):PZ H o (.elems S (l.map f)) i j tot n (some ps) =
  if j+n<=(f (nth l i)).cells.length/\ps.all (·.one)=true/\(f (nth l i)).cells.all (·.one)=true then
   some (GD H o (.elems S ((l.map f).set i (mR (f (nth l i)) (Ju (f (nth l i)).cells j ps))))) else none:=by
 simp_all [PZ,U4]
@[go_sem] theorem Znh {a cs} :mR (.agg a) cs= .agg cs:=Zl rfl rfl
@[go_sem] theorem Zni {n c l} :mR (.int k n) (c::l)=c:=Zl rfl rfl
@[go_sem] theorem Zky {n c l} :mR (.bool n) (c::l)=c:=Zl rfl rfl
@[go_sem] theorem ZeW {l} :FF P H t l=match Xg P t,Cb P t with
 | some zs,some pl=>(KP H pl (zs.map .p) l).map mkA
 | _,_=>none:=Zl rfl rfl
@[go_sem] theorem Ze4 {pl cs} :KP H pl cs []=some cs:=by simp [KP]
def gM (H:List Obj) (pl:Nat->Option (Nat×Nat)) (cs:List V) (r:List (Nat×V)) (q:Option (Nat×Nat)) (vs:Option (List V)):Option (List V):=match q,vs with
 | some (off,sz),some vs=>if vs.length=sz/\off+sz<=cs.length then KP H pl (Ju cs off vs) r else none
 | _,_=>none
@[go_sem] theorem Zaj {pl cs i v r} :KP H pl cs ((i,v)::r)=gM H pl cs r (pl i) (vc H v):=Zl rfl rfl
@[go_sem] theorem xX {pl cs off sz vs r} :gM H pl cs r (some (off,sz)) (some vs)=if vs.length=sz/\off+sz<=cs.length then KP H pl (Ju cs off vs) r else none:=Zl rfl rfl
@[go_sem] theorem Zpb {l i} :Ca l i=l[i]? :=Zl rfl rfl
@[go_sem] theorem Zpa {n i} :plA n i=some (i*n,n):=Zl rfl rfl
end vals
end Go.AM
namespace Go.AM
open Go.RowKit
section
variable {P : Program} {H : List Obj} {k : IntKind} {t u : TypeId} {fr : List V}
def gU (S:Option Nat) (H:List Obj) (n:Nat) (l:List (Nat×V)):Option (V×List Obj):=match S with
 | some S=>if n=l.length/\n*S<=16777216/\0<S then (JH H S 0 l).map fun xs=>(.sl H.length 0 n n,H++ [.elems S xs]) else none
 | none=>none
@[go_sem] theorem Zih {n l} :Vd P (.buildSlice t n (List.toArray l)) fr H=gU (U7 P t) H n (l.map fun x=>(x.1,ev fr x.2)):=by
 grind [Vd,U7,gU,Pp]
@[go_sem] theorem Zam {S n l} :gU (some S) H n l=if n=l.length/\n*S<=16777216/\0<S then (JH H S 0 l).map fun xs=>(.sl H.length 0 n n,H++ [.elems S xs]) else none:=Zl rfl rfl
@[go_sem] theorem Zku {S n} :JH H S n []=some []:=by simp [JH]
@[go_sem] theorem Zf4 {S n i x r} :JH H S n ((i,.p x)::r)=if i=n then if x.cells.length=S/\x.cells.all (·.one)=true then (JH H S (n+1) r).map (x:: ·) else none else none:=by rfl
@[go_sem] theorem Zm8 {S n i f r} :JH H S n ((i,.fn (.func f) [] [])::r)=if i=n then if 1=S then (JH H S (n+1) r).map (.fn f:: ·) else none else none:=by simp [JH,pvo,PV.cells,PV.one]
def Jc (P:Program) (t:TypeId):Option (Nat×Nat):=match P.underlying t with
 | some (.slice e)=>match Y8 P e,zval P e,(P.info? e).map (·.bytes) with
  | some S,some z,some by'=>if 0<S/\z.cells.length=S/\z.cells.all (·.one)=true/\by'≠0 then some (S,by') else none
  | _,_,_=>none
 | _=>none
theorem FN {S by'} (h:Jc P t=some (S,by')): ∃e z,P.underlying t=some (.slice e)/\Y8 P e=some S/\zval P e=some z/\(P.info? e).map (·.bytes)=some by'/\0<S/\z.cells.length=S/\z.cells.all (·.one)=true/\by'≠0:=by
 unfold Jc at h
 grind
def YR (D:Option TypeDesc) (H:List Obj) (y:V):Option (List PV):=match D,y with
 | some (.slice _),.p (.list _ ys)=>some ys
 | some (.slice _),.sl o off len tot=>match oat H o with
  | .elems _ xs=>if xs.length=tot/\off+len<=tot then some ((xs.take (off+len)).drop off) else none
  | _=>none
 | some .string,.p (.str s)=>some (s.map fun b=> .int .u8 b.toNat)
 | _,_=>none
def pU (ob:Obj) (off len tot:Nat):Option (List PV):=match ob with | .elems _ xs=>if xs.length=tot/\off+len<=tot then some ((xs.take (off+len)).drop off) else none | _=>none
@[go_sem] theorem ZaC {e c ys} :YR (some (.slice e)) H (.p (.list c ys))=some ys:=Zl rfl rfl
@[go_sem] theorem Zit {e o off len tot} :YR (some (.slice e)) H (.sl o off len tot)=pU (oat H o) off len tot:=Zl rfl rfl
theorem OV {S xs n} (h:List.length xs=n):pU (.elems S xs) 0 n n=some xs:=by grind [pU]
def M3 (H:List Obj) (F:Option (Nat×Nat)) (ys:Option (List PV)):Option (V×List Obj):=match F,ys with
 | some (S,by'),some ys=>if A3 S ys=true/\ys.length*by'<=140737488355328/\ys.length<=140737488355328 then some (.sl H.length 0 ys.length ys.length,H++ [.elems S ys]) else none
 | _,_=>none
def UH (H:List Obj) (F:Option (Nat×Nat)) (ob:Obj) (o n:Nat) (ys:Option (List PV)):Option (V×List Obj):=match F,ob,ys with
 | some (S,by'),.elems S' xs,some ys=>if S'=S/\xs.length=n/\A3 S ys=true/\(n+ys.length)*by'<=140737488355328/\n+ys.length<=140737488355328 then
   some (.sl o 0 (n+ys.length) (n+ys.length),GD H o (.elems S (xs++ys))) else none
 | _,_,_=>none
theorem I7 {z x y ys e S by'} (h1:P.underlying t=some (.slice e)) (h2:Y8 P e=some S) (h3:zval P e=some z) (h4:(P.info? e).map (·.bytes)=some by') (h5:Ho P H u y=some ys) (h6:0<S/\z.cells.length=S/\z.cells.all (·.one)=true/\by'≠0) :
  Vc P H t u x y=if A3 S ys=true then (match x with
    | .p (.list cl xs)=>if cl=true/\A3 S xs=true/\(xs= []\/0<ys.length)/\(xs.length+ys.length)*by'<=140737488355328/\xs.length+ys.length<=140737488355328 then
      some (.sl H.length 0 (xs.length+ys.length) (xs.length+ys.length),H++ [.elems S (xs++ys)]) else none
    | .sl o off len tot=>match oat H o with
     | .elems S' xs=>if S'=S/\off=0/\len=tot/\xs.length=tot/\(tot+ys.length)*by'<=140737488355328/\tot+ys.length<=140737488355328 then
       some (.sl o 0 (tot+ys.length) (tot+ys.length),GD H o (.elems S (xs++ys))) else none
     | _=>none
    | _=>none) else none:=by
 simp only [Vc,h1,h2,h3,h4,h5]
 grind
theorem Cc {y F} (hF:Jc P t=some F):Vc P H t u (.p (.list true [])) y=M3 H (some F) (YR (P.underlying u) H y):=by
 obtain ⟨S,by'⟩:=F;obtain ⟨e,z,h1,h2,h3,h4,h6⟩:=FN hF;have e1:YR (P.underlying u) H y=Ho P H u y:=Zl rfl rfl;rw [e1]
 cases h5:Ho P H u y with
 | none=>grind [Vc,M3]
 | some ys =>
  grind [I7,M3,A3]
theorem Yv {y F o n} (hF:Jc P t=some F):Vc P H t u (.sl o 0 n n) y=UH H (some F) (oat H o) o n (YR (P.underlying u) H y):=by
 obtain ⟨S,by'⟩:=F;obtain ⟨e,z,h1,h2,h3,h4,h6⟩:=FN hF;have e1:YR (P.underlying u) H y=Ho P H u y:=Zl rfl rfl;rw [e1]
 cases h5:Ho P H u y with
 | none =>
  grind [Vc,UH]
 | some ys =>
  rw [I7 h1 h2 h3 h4 h5 h6];simp only [UH]
  grind
@[go_sem] theorem Zfo {S b ys} :M3 H (some (S,b)) (some ys)=if A3 S ys=true/\ys.length*b<=140737488355328/\ys.length<=140737488355328 then some (.sl H.length 0 ys.length ys.length,H++ [.elems S ys]) else none:=Zl rfl rfl
theorem HO {S b xs ys o n} (hn:xs.length=n) (hb:(n+ys.length)*b<=140737488355328) (hb2:n+ys.length<=140737488355328):UH H (some (S,b)) (.elems S xs) o n (some ys)=if A3 S ys=true then some (.sl o 0 (n+ys.length) (n+ys.length),GD H o (.elems S (xs++ys))) else none:=by
 simp_all [UH]
@[go_sem] theorem Zlb {α:Type} {S} {f:α->PV} {l:List α} :pU (.elems S (l.map f)) 0 l.length l.length=some (l.map f):=OV Zb
@[go_sem] theorem Zlc {S x} :pU (.elems S [x]) 0 1 1=some [x]:=OV Zb
@[go_sem] theorem Zfq {α:Type} {S b o x} {f:α->PV} {l:List α} (hb:(l.length+1)*b<=140737488355328) (hb2:l.length+1<=140737488355328):UH H (some (S,b)) (.elems S (l.map f)) o l.length (some [x])=if A3 S [x]=true then some (.sl o 0 (l.length+1) (l.length+1),GD H o (.elems S (l.map f++ [x]))) else none :=
 HO Zb Za Za
@[go_sem] theorem Zfr {α β:Type} {S b o} {f:α->PV} {g:β->PV} {l:List α} {m:List β} (hb:(l.length+m.length)*b<=140737488355328) (hb2:l.length+m.length<=140737488355328):UH H (some (S,b)) (.elems S (l.map f)) o l.length (some (m.map g))=if A3 S (m.map g)=true then some (.sl o 0 (l.length+m.length) (l.length+m.length),GD H o (.elems S (l.map f++m.map g))) else none:=by
 grind [HO]
@[go_sem] theorem Znk {S} :A3 S []=true:=Zl rfl rfl
@[go_sem] theorem ZkF {S x l} :A3 S (x::l)=((x.cells.length==S)&&x.cells.all (·.one)&&A3 S l):=by rfl
theorem Kq {α:Type} {S} {f:α->PV} {l:List α} (h: ∀x,Zd2 S (f x)=true):A3 S (l.map f)=true:=by grind [A3]
def Ta (P:Program) (t:TypeId):Option (Nat×Nat×PV):=match P.underlying t with
  | some (.slice e)=>match Y8 P e,zval P e,(P.info? e).map (·.bytes) with
   | some S,some z,some by'=>if z.cells.all (·.one)=true/\z.cells.length=S/\0<S then some (S,by',z) else none
   | _,_,_=>none
  | _=>none
end
def WK : Nat->List Nat->List V->List V
 | _,_,[]=> []
 | i,[],_::l=> .junk::WK (i+1) [] l
 | i,k::ks,x::l=>if i=k then x::WK (i+1) ks l else .junk::WK (i+1) (k::ks) l
def KM : List (Nat×V)->List V->List V
 | [],fr=>fr
 | (i,v)::r,fr=>KM r (pt fr i v)
@[go_sem] theorem Zf0 {i ks} :WK i ks []= []:=by rfl
@[go_sem] theorem ZdT {i x l} :WK i [] (x::l)= .junk::WK (i+1) [] l:=by simp [WK]
@[go_sem] theorem ZdS {i k ks x l} :WK i (k::ks) (x::l)=if i=k then x::WK (i+1) ks l else .junk::WK (i+1) (k::ks) l:=by simp [WK]
@[go_sem] theorem ZqQ : ((0:Nat):Int)=0:=Zl rfl rfl
@[go_sem] theorem ZqR {n:Nat} :((n+1:Nat):Int)=(n:Int)+1:=Zl rfl rfl
@[go_sem] theorem ZpK {n:Nat} :((n:Int)).toNat=n:=Zl rfl rfl
@[go_sem] theorem Zk2 {fr} :KM [] fr=fr:=by simp [KM]
@[go_sem] theorem Zgg {i v r fr} :KM ((i,v)::r) fr=KM r (pt fr i v):=by simp [KM]
@[go_sem] theorem Zmr {p q:Prop} [Decidable p] [Decidable q]:(decide p&&decide q)=decide (p/\q):=Zb
@[go_sem] theorem Zd6 {p q:Prop} [Decidable p] [Decidable q]:(decide p||decide q)=decide (p\/q):=Zb
theorem Zk {P c fr H Q} {I:Type} (ks:List Nat) (sets:I->List (Nat×V)) (hs:I->List Obj) (R:I->Prop) (μ:I->Nat) (i0:I) (hR:R i0) (h0:Weak H.length fr H (KM (sets i0) (WK 0 ks fr)) (hs i0))
  (round: ∀i,R i->J0 [] P c (KM (sets i) (WK 0 ks fr)) (hs i) (Q5 (fun fr' H'=> ∃i',R i'/\μ i'<μ i/\Weak H.length fr' H' (KM (sets i') (WK 0 ks fr)) (hs i')) Q)):AWP P (.loop c) fr H Q :=
 Na R (fun i=>KM (sets i) (WK 0 ks fr)) hs μ i0 hR h0 fun i hi=>Zg [] _ _ _ _ (round i hi)
theorem ZZ {P c fr H Q} (cuts:List Nat) {I:Type} (ks:List Nat) (sets:I->List (Nat×V)) (hs:I->List Obj) (R:I->Prop) (μ:I->Nat) (i0:I) (hR:R i0) (h0:Weak H.length fr H (KM (sets i0) (WK 0 ks fr)) (hs i0))
  (round: ∀i,R i->J0 cuts P c (KM (sets i) (WK 0 ks fr)) (hs i) (Q5 (fun fr' H'=> ∃i',R i'/\μ i'<μ i/\Weak H.length fr' H' (KM (sets i') (WK 0 ks fr)) (hs i')) Q)):AWP P (.loop c) fr H Q :=
 Na R (fun i=>KM (sets i) (WK 0 ks fr)) hs μ i0 hR h0 fun i hi=>Zg cuts _ _ _ _ (round i hi)
theorem ZI {P x y fr H Q} {I:Type} (ks:List Nat) (sets:I->List (Nat×V)) (hs:I->List Obj) (R:I->Prop)
  (h:J0 [] P x fr H (Q5 (fun fr' H'=> ∃i,R i/\Weak H.length fr' H' (KM (sets i) (WK 0 ks fr)) (hs i)) Q)) (k: ∀i,R i->AWP P y (KM (sets i) (WK 0 ks fr)) (hs i) Q):AWP P (.seq x y) fr H Q :=
 fun F ι a w hr hf=>by
 refine wp_seq (wp_mono (Zg [] _ _ _ _ h F ι a w hr hf) ?_);rintro e a' w' ⟨fr',H',ι',q,g,f⟩
 cases e with
 | normal =>
  obtain ⟨i,hi,hw⟩:=q;obtain ⟨ι2,r2,f2,g2⟩:=hw F ι' a' w' g.rel f;refine wp_mono (k i hi F ι2 a' w' r2 f2) ?_;rintro e2 a2 w2 ⟨fr2,H2,ι3,q2,g3,f3⟩;exact ⟨fr2,H2,ι3,q2,(g2 H ι w (Zw _) g).trans g3,f3⟩
 | exit id=>exact ⟨fr',H',ι',q,g,f⟩
 | goto l=>exact ⟨fr',H',ι',q,g,f⟩
 | ret=>exact ⟨fr',H',ι',q,g,f⟩
 | panic ch=>exact ⟨fr',H',ι',q,g,f⟩
 | outgrown=>exact ⟨fr',H',ι',q,g,f⟩
theorem Zl6 {H n x} :Ep H n x x=(refB n x=true\/x= .junk\/ ∃y,fP H n x=some y/\x= .p y):=by
 simp only [Ep,true_and,eq_iff_iff]
 grind
@[go_sem] theorem Zl4 {H n x} :Ep H n x .junk=True:=by simp [Ep]
@[go_sem] theorem ZqI {H n} {x y:PV} :Ep H n (.p x) (.p y)=(y=x):=by simp [Ep,refB,fP]
@[go_sem] theorem Zod {H n o off len tot o' off' len' tot'} :Ep H n (.sl o off len tot) (.sl o' off' len' tot')=((o'=o/\off'=off/\len'=len/\tot'=tot)/\o<n):=by simp [Ep,refB]
@[go_sem] theorem Zl5 {H n o off o' off'} :Ep H n (.ptr o off) (.ptr o' off')=((o'=o/\off'=off)/\o<n):=by simp [Ep,refB]
theorem xT {H n o off len tot y} :Ep H n (.sl o off len tot) (.p y)=(fP H n (.sl o off len tot)=some y):=by simp [Ep]
@[go_sem] theorem Zn9 {H n} :Pj H n [] []=True:=by simp [Pj]
@[go_sem] theorem Zl1 {H n x l x' l'} :Pj H n (x::l) (x'::l')=(Ep H n x x'/\Pj H n l l'):=by simp [Pj]
@[go_sem] theorem Zoa {H n l} :Pc H n l []=True:=by simp [Pc]
@[go_sem] theorem Zl2 {H n x l x' l'} :Pc H n (x::l) (x'::l')=(FD H n x x'/\Pc H n l l'):=by simp [Pc]
@[go_sem] theorem Zhl {H n cs cs'} :FD H n (.cells cs) (.cells cs')=Pj H n cs cs':=by simp [FD]
@[go_sem] theorem Zhm {H n S S' xs xs'} :FD H n (.elems S xs) (.elems S' xs')=(S=S'/\xs=xs'):=by simp [FD]
@[go_sem] theorem Zob {H n es es2} :FD H n (.map es) (.map es2)=(es=es2):=by simp [FD]
@[go_sem] theorem ZqH {H n o o2} :Ep H n (.mp o) (.mp o2)=(o2=o/\o<n):=by simp [Ep,refB,fP]
@[go_sem] theorem Zl3 {H n} :FD H n .dead .dead=True:=by simp [FD]
theorem Weak.mk {n0 fr H fr' H'} (h:n0<=H'.length/\H'.length<=H.length/\Pj H H'.length fr fr'/\Pc H H'.length H H'):Weak n0 fr H fr' H':=Weak.of h.1 h.2.2.1 h.2.2.2 h.2.1
theorem wk {n0 fr H fr' H'} (h:n0<=H'.length/\H'.length<=H.length/\Pj H H'.length fr fr'/\Pc H H'.length H H':=by simp (disch:=omega) only [go_sem,seval]):Weak n0 fr H fr' H':=Weak.mk h
theorem we {n0 x H' a b} (h:n0<=List.length b/\List.length b<=H'.length/\Pj H' (List.length b) [x] [a]/\Pc H' (List.length b) H' b:=by simp (disch:=omega) only [go_sem,seval]): ∃y H'',Weak n0 [x] H' [y] H''/\y=a/\H''=b:=⟨_,_,Weak.mk h,rfl,rfl⟩
attribute [go_sem] List.length_cons List.length_nil List.cons_append List.nil_append List.append_nil List.map_cons List.map_nil List.drop_zero List.drop_succ_cons List.drop_nil List.take_succ_cons List.take_zero List.take_nil List.all_cons List.all_nil
 Xt VN and_self true_and and_true AS AR Fb CN QY VS Bool.and_self Z2 if_true YH Um Kg IntWalk.i64_in IntWalk.i32_in IntWalk.u8_in IntWalk.u64_in IntWalk.u32_in
 beq_self_eq_true K3 List.replicate_zero Bool.or_true Bool.true_or Bool.or_false Bool.false_or YB W9
end Go.AM
namespace Go.AM
open Go.RowKit
theorem RP.weaker {X X':Nat->Prop} {w x v} (h:RP X w x v) (hx: ∀b,X' b->X b):RP X' w x v:=h.ext (w':=w) fun _ hb hs=>⟨fun h=>hb (hx _ h),hs,rfl⟩
theorem Good.forget {F w H' ι' w'} (he:Env F [] w) (hf: ∀b,F b->b<w.heap.size) (g:Good F [] [] w H' ι' w'):Good F [] [] w [] [] w' :=
 .up he ⟨⟨rfl,fun b hb=>by have:=hf b hb;have:=g.size;omega,fun i j b hi=>by simp at hi,fun i b hi=>by simp at hi,fun o cs ho=>by simp at ho,fun o S xs ho=>by simp at ho,fun o es ho=>by simp at ho,fun o T E r bs ho=>by simp at ho⟩,
  g.os,g.tape,g.output,fun b c t h=>(g.shape b c t h).imp (fun h=>absurd h.1 Zb) id,g.size,g.keep,fun _ _ h=>h,fun o ob ho=>by simp at ho⟩
theorem ACalls.pure {P g args} {y:PV} (h:ACalls P g args [] fun x _=>x= .p y):ACalls P g args [] fun x H'=>x= .p y/\H'= []:=by
 refine ⟨h.1,fun F ι w vs hr hv=> ?_⟩;have hι:ι= []:=YG hr.len;subst hι;refine (h.2 F [] w vs hr hv).mono ?_;rintro e w' ⟨x,H',ι',v,rfl,rfl,gd,rv⟩
 cases rv with | p _ _ rp =>
 exact ⟨_,[],[],v,rfl,⟨rfl,rfl⟩,gd.forget hr.env hr.fin,.p _ _ (rp.weaker fun b hb=> .inl (by rcases hb with hb | hb;exact hb;simp at hb))⟩
theorem Gf {F:Nat->Prop} {w w':World} {H':List Obj} {ι':List (Option Nat)} {v:Value} {o S n:Nat} {xs:List PV} (hF: ∀b,F b->b<w.heap.size) (hn:xs.length=n) (ho:oat H' o= .elems S xs)
  (gd:Good F [] [] w H' ι' w') (rv:RV F H' ι' w' (.sl o 0 n n) v): ∃ι2,Good F [] [] w [.elems S xs] ι2 w'/\RV F [.elems S xs] ι2 w' (.sl 0 0 n n) v:=by
 have hH:=XC ho Zb;have hlt:=(ZT.1 hH).1
 have hlt':o<ι'.length:=by rw [gd.rel.len];exact hlt
 have hι':ι'[o]? =some (ι'[o]):=by simp [hlt']
 have hget: ∀ {i:Nat} {q:Option Nat},[ι'[o]][i]? =some q->i=0/\ι'[o]? =some q:=fun {i q} h=>by
  grind
 have hown: ∀b,Own F [ι'[o]] b->Own F ι' b:=fun b hb=>by
  rcases hb with hb | hb
  ·exact .inl hb
  ·simp at hb;right;rw [hb];simp
 refine ⟨[ι'[o]],⟨⟨⟨rfl,fun b hb=> ?_,fun i j b hi hj=> ?_,fun i b hi=> ?_,fun o' cs ho'=> ?_,fun o' S' xs' ho'=> ?_,fun o' es ho'=>by grind,fun o' T E r bs ho'=>by grind⟩,gd.rel.env.le hown⟩,gd.os,gd.tape,gd.output,fun b c t h=>(gd.shape b c t h).imp (fun h=>absurd h.1 Zb) id,gd.size,gd.keep,fun b hb _ h=> ?_,fun o ob ho=>by simp at ho⟩,?_⟩
 ·have:=hF b hb;have:=gd.size;omega
 ·grind
 ·exact gd.rel.avo o b (hget hi).2
 ·grind
 ·cases o' with
  | zero =>
   simp at ho';obtain ⟨rfl,rfl⟩:=ho';rcases gd.rel.elm o _ _ hH with ⟨e1,e2⟩ | ⟨b,c,t,cap,e1,e2,e3,e4,e5,e6,e7⟩
   ·grind
   ·exact .inr ⟨b,c,t,cap,by grind,e2,e3,e4,e5,e6,fun i x j y hi hj=>(e7 i x j y hi hj).weaker hown⟩
  | succ i=>simp at ho'
 ·simp at h;exact gd.own b hb Zb (by rw [h];simp)
 ·cases rv with
  | slNil _ S2 a h1 h2 =>
   rw [hH] at h2;simp at h2;obtain ⟨rfl,rfl⟩:=h2;exact .slNil 0 S a (by grind) rfl
  | sl _ _ _ _ b S2 cap t xs2 c h1 h2 ht hw hcap hl hlen hm =>
   rw [hH] at h2;simp at h2;obtain ⟨rfl,rfl⟩:=h2;exact .sl 0 0 n n b S cap t xs c (by grind) rfl hn hw hcap hl hlen hm
  | slD _ _ _ _ _ h1=>grind
  | slS _ _ _ _ _ S2 xs2 h1 hne=>grind
  | slC _ _ _ _ _ _ hd=>grind
theorem ACalls.fresh {P g args} {S n:Nat} {xs:List PV} (hn:xs.length=n) (h:ACalls P g args [] fun x H'=> ∃o,x= .sl o 0 n n/\oat H' o= .elems S xs):ACalls P g args [] fun x H'=>x= .sl 0 0 n n/\H'= [.elems S xs]:=by
 refine ⟨h.1,fun F ι w vs hr hv=> ?_⟩;have hι:ι= []:=YG hr.len;subst hι;refine (h.2 F [] w vs hr hv).mono ?_;rintro e w' ⟨x,H',ι',v,rfl,⟨o,rfl,ho⟩,gd,rv⟩;obtain ⟨ι2,g2,r2⟩:=Gf hr.fin hn ho gd rv
 grind
theorem ACalls.freshE {P g args} {α:Type} {S:Nat} {f:α->PV} {R:List α->Prop} (h:ACalls P g args [] fun x H'=> ∃l:List α,R l/\ ∃o,x= .sl o 0 l.length l.length/\oat H' o= .elems S (l.map f)) :
  ACalls P g args [] fun x H'=> ∃l:List α,R l/\x= .sl 0 0 l.length l.length/\H'= [.elems S (l.map f)]:=by
 refine ⟨h.1,fun F ι w vs hr hv=> ?_⟩;have hι:ι= []:=YG hr.len;subst hι;refine (h.2 F [] w vs hr hv).mono ?_;rintro e w' ⟨x,H',ι',v,rfl,⟨l,hl,o,rfl,ho⟩,gd,rv⟩;obtain ⟨ι2,g2,r2⟩:=Gf hr.fin Zb ho gd rv
 grind
theorem ACalls.frozen {P g args} {S n:Nat} {xs:List PV} (hn:xs.length=n) (h:ACalls P g args [] fun x H'=>x= .sl 0 0 n n/\H'= [.elems S xs]):ACalls P g args [] fun x H'=>x= .p (.list false xs)/\H'= []:=by
 refine ⟨h.1,fun F ι w vs hr hv=> ?_⟩;have hι:ι= []:=YG hr.len;subst hι;refine (h.2 F [] w vs hr hv).mono ?_;rintro e w' ⟨x,H',ι',v,rfl,⟨rfl,rfl⟩,gd,rv⟩;have hk:Keeps (Own F ι') w' (Own F []) w':=fun b hb hs=>⟨fun h=>hb (.inl (by rcases h with h | h;exact h;simp at h)),hs,rfl⟩
 have:=BY (S:=S) (xs:=xs) (off:=0) (len:=n) (tot:=n) (Own F []) (fun b hb h=>by
  rcases h with h | h
  ·exact (gd.rel.avo 0 b hb).1 h
  ·simp at h) hk gd.rel rfl hn Za rv
 rw [Xt,Fi,CP Za] at this;exact ⟨_,[],[],v,rfl,⟨rfl,rfl⟩,gd.forget hr.env hr.fin,.p _ _ this⟩
theorem ACalls.frozenE {P g args} {α:Type} {S:Nat} {f:α->PV} {R:List α->Prop} (h:ACalls P g args [] fun x H'=> ∃l:List α,R l/\x= .sl 0 0 l.length l.length/\H'= [.elems S (l.map f)]) :
  ACalls P g args [] fun x H'=> ∃l:List α,R l/\x= .p (.list false (l.map f))/\H'= []:=by
 refine ⟨h.1,fun F ι w vs hr hv=> ?_⟩;have hι:ι= []:=YG hr.len;subst hι;refine (h.2 F [] w vs hr hv).mono ?_;rintro e w' ⟨x,H',ι',v,rfl,⟨l,hl,rfl,rfl⟩,gd,rv⟩;have hk:Keeps (Own F ι') w' (Own F []) w':=fun b hb hs=>⟨fun h=>hb (.inl (by rcases h with h | h;exact h;simp at h)),hs,rfl⟩
 have:=BY (S:=S) (xs:=l.map f) (off:=0) (len:=l.length) (tot:=l.length) (Own F []) (fun b hb h=>by
  rcases h with h | h
  ·exact (gd.rel.avo 0 b hb).1 h
  ·simp at h) hk gd.rel rfl Zb Za rv
 rw [Xt,Fi,CP Zb] at this;exact ⟨_,[],[],v,rfl,⟨l,hl,rfl,rfl⟩,gd.forget hr.env hr.fin,.p _ _ this⟩
theorem ACalls.useV {P g args} {α:Type} {f:α->PV} {R:α->Prop} {H:List Obj} {K:V->List Obj->Prop} (h:ACalls P g args [] fun x H'=> ∃a:α,R a/\x= .p (f a)/\H'= []) (k: ∀a,R a->K (.p (f a)) H) (ha:Xv 0 args=true:=by rfl):ACalls P g args H K:=by
 refine (h.behind ha H).mono ?_;rintro x H' ⟨y',H1,⟨a,ra,rfl,rfl⟩,rfl,rfl⟩
 grind [shV]
theorem ACalls.useE {P g args} {α:Type} {S:Nat} {f:α->PV} {R:List α->Prop} {H:List Obj} {K:V->List Obj->Prop} (h:ACalls P g args [] fun x H'=> ∃l:List α,R l/\x= .sl 0 0 l.length l.length/\H'= [.elems S (l.map f)])
  (k: ∀l,R l->K (.sl H.length 0 l.length l.length) (H++ [.elems S (l.map f)])) (ha:Xv 0 args=true:=by rfl):ACalls P g args H K:=by
 refine (h.behind ha H).mono ?_;rintro x H' ⟨y',H1,⟨l,rl,rfl,rfl⟩,rfl,rfl⟩
 grind [shV,shO]
theorem ACalls.use {P g args} {y:PV} {H:List Obj} {K:V->List Obj->Prop} (h:ACalls P g args [] fun x H'=>x= .p y/\H'= []) (k:K (.p y) H) (ha:Xv 0 args=true:=by rfl):ACalls P g args H K:=by
 refine (h.behind ha H).mono ?_;rintro x H' ⟨y',H1,⟨rfl,rfl⟩,rfl,rfl⟩
 grind [shV]
theorem ACalls.useF {P g args} {S n:Nat} {xs:List PV} {H:List Obj} {K:V->List Obj->Prop} (h:ACalls P g args [] fun x H'=>x= .sl 0 0 n n/\H'= [.elems S xs]) (k:K (.sl H.length 0 n n) (H++ [.elems S xs])) (ha:Xv 0 args=true:=by rfl):ACalls P g args H K:=by
 refine (h.behind ha H).mono ?_;rintro x H' ⟨y',H1,⟨rfl,rfl⟩,rfl,rfl⟩
 grind [shV,shO]
theorem Ze {P:Program} {g:FuncId} {fn:Func} {c:Code} {args:List V} {y:PV} (hf:P.funcs[g]? =some fn) (hb:fn.body=some c) (hg:Zj P g)
  (h:J0 [] P c (args++List.replicate (fn.ntmps-args.length) .junk) [] (BW P fn.results.toList fun x _=>x= .p y)):ACalls P g args [] fun x H'=>x= .p y/\H'= [] :=
 (YI hf hb hg (Zg [] _ _ _ _ h)).pure
theorem UZ (cuts:List Nat) {P:Program} {g:FuncId} {fn:Func} {c:Code} {args:List V} {y:PV} (hf:P.funcs[g]? =some fn) (hb:fn.body=some c) (hg:Zj P g)
  (h:J0 cuts P c (args++List.replicate (fn.ntmps-args.length) .junk) [] (BW P fn.results.toList fun x _=>x= .p y)):ACalls P g args [] fun x H'=>x= .p y/\H'= [] :=
 (YI hf hb hg (Zg cuts _ _ _ _ h)).pure
theorem UY {P:Program} {g:FuncId} {fn:Func} {c:Code} {args:List V} {S n:Nat} {xs:List PV} (hn:xs.length=n) (hf:P.funcs[g]? =some fn) (hb:fn.body=some c) (hg:Zj P g)
  (h:J0 [] P c (args++List.replicate (fn.ntmps-args.length) .junk) [] (BW P fn.results.toList fun x H'=> ∃o,x= .sl o 0 n n/\oat H' o= .elems S xs)):ACalls P g args [] fun x H'=>x= .sl 0 0 n n/\H'= [.elems S xs] :=
 (YI hf hb hg (Zg [] _ _ _ _ h)).fresh hn
theorem Hm (cuts:List Nat) {P:Program} {g:FuncId} {fn:Func} {c:Code} {args:List V} {S n:Nat} {xs:List PV} (hn:xs.length=n) (hf:P.funcs[g]? =some fn) (hb:fn.body=some c) (hg:Zj P g)
  (h:J0 cuts P c (args++List.replicate (fn.ntmps-args.length) .junk) [] (BW P fn.results.toList fun x H'=> ∃o,x= .sl o 0 n n/\oat H' o= .elems S xs)):ACalls P g args [] fun x H'=>x= .sl 0 0 n n/\H'= [.elems S xs] :=
 (YI hf hb hg (Zg cuts _ _ _ _ h)).fresh hn
theorem ZX (cuts:List Nat) {P:Program} {g:FuncId} {fn:Func} {c:Code} {args:List V} {α:Type} {S:Nat} {f:α->PV} {R:List α->Prop} (hf:P.funcs[g]? =some fn) (hb:fn.body=some c) (hg:Zj P g)
  (h:J0 cuts P c (args++List.replicate (fn.ntmps-args.length) .junk) [] (BW P fn.results.toList fun x H'=> ∃l:List α,R l/\ ∃o,x= .sl o 0 l.length l.length/\oat H' o= .elems S (l.map f))):ACalls P g args [] fun x H'=> ∃l:List α,R l/\x= .sl 0 0 l.length l.length/\H'= [.elems S (l.map f)] :=
 (YI hf hb hg (Zg cuts _ _ _ _ h)).freshE
theorem Weak.ofNil {n0 fr H fr' H'} (t S:Nat) (h:gt fr t= .p (.list true [])) (hn:n0<=H.length) (k:Weak n0 (pt fr t (.sl H.length 0 0 0)) (H++ [.elems S []]) fr' H'):Weak n0 fr H fr' H' :=
 (Weak.nil t S h hn).trans k
end Go.AM
namespace Go.AM
open Go.RowKit
section
variable {P : Program} {H : List Obj} {t : TypeId} {fr : List V}
def FP (e:Option (Option Nat×Nat)) (c:Bool) (xs:List PV) (lo hi:V):Option V:=match e,lo,hi with
 | some (none,S),.p (.int _ a),.p (.int _ b)=>if Ci S xs=true/\0<=a/\a<=b/\b<=xs.length then some (.p (.list (c&&decide (b=xs.length)) ((xs.take b.toNat).drop a.toNat))) else none
 | _,_,_=>none
def V.isInt : V->Option Int
 | .p (.int _ n)=>some n
 | _=>none
theorem V.isInt_some {x:V} {n} (h:x.isInt=some n): ∃k,x= .p (.int k n):=by
 unfold V.isInt at h;grind
theorem Jv {d:Int} {x:Operand} :Ph d fr (some x)=(ev fr x).isInt:=rfl
theorem DE {c xs k k' a b} :(JZ P t c xs a b none).map .p=FP (Wj P t) c xs (.p (.int k a)) (.p (.int k' b)):=by
 simp only [JZ,FP]
 grind
theorem Si {e c xs lo hi} (h:lo.isInt=none):FP e c xs lo hi=none:=by
 unfold FP;grind [V.isInt]
theorem Sg {e c xs lo hi} (h:hi.isInt=none):FP e c xs lo hi=none:=by
 unfold FP;grind [V.isInt]
@[go_sem] theorem Zft {c xs hi} :Vl P H t fr (.p (.list c xs)) none (some hi) none=FP (Wj P t) c xs (.p (.int .i64 0)) (ev fr hi):=by
 simp only [Vl,Jv]
 cases h:(ev fr hi).isInt with
 | none=>simp [Ph,Sg h]
 | some n=>obtain ⟨k,e⟩:=V.isInt_some h;rw [e,<- DE];rfl
@[go_sem] theorem Zfu {c xs lo} :Vl P H t fr (.p (.list c xs)) (some lo) none none=FP (Wj P t) c xs (ev fr lo) (.p (.int .i64 (List.length xs))):=by
 simp only [Vl,Jv]
 cases h:(ev fr lo).isInt with
 | none=>simp [Si h]
 | some n=>obtain ⟨k,e⟩:=V.isInt_some h;rw [e,<- DE];rfl
@[go_sem] theorem yC {c xs lo hi} :Vl P H t fr (.p (.list c xs)) (some lo) (some hi) none=FP (Wj P t) c xs (ev fr lo) (ev fr hi):=by
 simp only [Vl,Jv]
 cases h:(ev fr lo).isInt with
 | none=>simp [Si h]
 | some n =>
  cases h2:(ev fr hi).isInt with
  | none=>simp [Sg h2]
  | some m=>grind [V.isInt_some,DE]
@[go_sem] theorem Zis {α:Type} {f:α->PV} {l:List α} {S c k k' a b} (h0:0<=a) (h1:a<=b) (h2:b<=(l.length:Int)) :
  FP (some (none,S)) c (l.map f) (.p (.int k a)) (.p (.int k' b))=if Ci S (l.map f)=true then some (.p (.list (c&&decide (b=l.length)) (((l.take b.toNat).drop a.toNat).map f))) else none:=by
 simp_all [FP]
end
def MW (P:Program) (d:Option TypeDesc) (x i:V):Option V :=
 match d,x,i with
 | some .string,.p (.str s),.p (.int _ n)=>if 0<=n then (s[n.toNat]?).map fun b=> .p (.int .u8 b.toNat) else none
 | some (.array k e),.p (.agg cs),.p (.int _ n)=>if 0<=n/\n<k then (match Y8 P e with | some m=>(apart P e cs (n.toNat*m)).map .p | none=>none) else none
 | _,_,_=>none
@[go_sem] theorem Zml {P:Program} {t:TypeId} {x i:V} :MX P t x i=MW P (P.underlying t) x i:=Zl rfl rfl
@[go_sem] theorem Ze9 {P:Program} {s:List UInt8} {k n} (h0:0<=n) (h1:n<(s.length:Int)):MW P (some .string) (.p (.str s)) (.p (.int k n))=some (.p (.int .u8 ((nth s n.toNat).toNat:Nat))):=by
 grind [MW,Zh]
def Ln (d:Option TypeDesc) (s:List UInt8) (lo hi:V):Option V:=match d,lo,hi with
 | some .string,.p (.int _ a),.p (.int _ b)=>if 0<=a/\a<=b/\b<=s.length then some (.p (.str ((s.take b.toNat).drop a.toNat))) else none
 | _,_,_=>none
theorem rY {d s lo hi} (h:lo.isInt=none):Ln d s lo hi=none:=by
 unfold Ln;grind [V.isInt]
theorem rX {d s lo hi} (h:hi.isInt=none):Ln d s lo hi=none:=by
 unfold Ln;grind [V.isInt]
section
variable {P : Program} {H : List Obj} {t : TypeId} {fr : List V}
theorem aC {s:List UInt8} {k k' a b} :(match P.underlying t with | some .string=>(if 0<=a/\a<=b/\b<=(s.length:Int) then some (V.p (.str ((s.take b.toNat).drop a.toNat))) else none) | _=>none)=Ln (P.underlying t) s (.p (.int k a)) (.p (.int k' b)):=by
 simp only [Ln]
 grind
@[go_sem] theorem rZ {s lo hi} :Vl P H t fr (.p (.str s)) (some lo) (some hi) none=Ln (P.underlying t) s (ev fr lo) (ev fr hi):=by
 simp only [Vl,Jv]
 cases h:(ev fr lo).isInt with
 | none=>rw [rY h];simp
 | some n =>
  cases h2:(ev fr hi).isInt with
  | none=>rw [rX h2];simp
  | some m =>
   grind [V.isInt_some,aC]
def M6 (e:Option (Option Nat×Nat)) (xs:List PV) (hi mx:V):Option V:=match e,hi,mx with
 | some (none,S),.p (.int _ b),.p (.int _ m)=>if Ci S xs=true/\0<=b/\b<=xs.length/\m=b then some (.p (.list true (xs.take b.toNat))) else none
 | _,_,_=>none
theorem rV {e xs hi mx} (h:hi.isInt=none):M6 e xs hi mx=none:=by
 unfold M6;grind [V.isInt]
theorem rW {e xs hi mx} (h:mx.isInt=none):M6 e xs hi mx=none:=by
 unfold M6;grind [V.isInt]
@[go_sem] theorem yB {c xs hi mx} :Vl P H t fr (.p (.list c xs)) none (some hi) (some mx)=M6 (Wj P t) xs (ev fr hi) (ev fr mx):=by
 simp only [Vl,Jv]
 cases h:(ev fr hi).isInt with
 | none=>grind [rV]
 | some n =>
  cases h2:(ev fr mx).isInt with
  | none=>grind [rW]
  | some m =>
   obtain ⟨k,e⟩:=V.isInt_some h;obtain ⟨k2,e2⟩:=V.isInt_some h2;rw [e,e2];simp only [Ph,JZ,M6]
   grind
@[go_sem] theorem Zir {α:Type} {f:α->PV} {l:List α} {S k k' b m} (h0:m=b) (h1:b=(l.length:Int)):M6 (some (none,S)) (l.map f) (.p (.int k b)) (.p (.int k' m))=if Ci S (l.map f)=true then some (.p (.list true (l.map f))) else none:=by
 subst h0;subst h1;simp only [M6,Z2]
 by_cases h:Ci S (l.map f)=true
 ·simp_all [CP]
 grind
end
@[go_sem low] theorem gW {H:List Obj} {S b xs ys o n} :UH H (some (S,b)) (.elems S xs) o n (some ys)=if xs.length=n/\A3 S ys=true/\(n+ys.length)*b<=140737488355328/\n+ys.length<=140737488355328 then some (.sl o 0 (n+ys.length) (n+ys.length),GD H o (.elems S (xs++ys))) else none:=by simp [UH]
@[go_sem] theorem Zoc {H:List Obj} {n f a b f' a' b'} :Ep H n (.fn f a b) (.fn f' a' b')=((f'=f/\a'=a/\b'=b)/\refB n (.fn f a b)=true):=by simp [Ep,fP]
@[go_sem] theorem Znq {n f a b} :refB n (.fn f a b)=(Xv n a&&Xv n b):=by simp [refB]
@[go_sem] theorem Zpc {n x} :refB n (.p x)=true:=by simp [refB]
@[go_sem] theorem ZkW {n o off} :refB n (.ptr o off)=decide (o<n):=by simp [refB]
@[go_sem] theorem Znr {n o off l t} :refB n (.sl o off l t)=decide (o<n):=by simp [refB]
@[go_sem] theorem Zgd {n} :Xv n []=true:=by simp [Xv]
@[go_sem] theorem Zeh {n x l} :Xv n (x::l)=(refB n x&&Xv n l):=by simp [Xv]
theorem ACalls.useH {P g args H} {v:V} {H2:List Obj} {K:V->List Obj->Prop} (h:ACalls P g args H fun x H'=>x=v/\H'=H2) (k:K v H2):ACalls P g args H K :=
 h.mono (by grind)
theorem Cj {α:Type} {f:α->PV} {S:Nat} (h: ∀x,(f x).cells.length=S) (l:List α):Ci S (l.map f)=true:=by
 cases l with
 | nil=>rfl
 | cons x l=>simp [Ci,h]
@[go_sem] theorem Zmp {k k'} {a b:Int} (h:b<=a):Lf false [.p (.int k a),.p (.int k' b)]=some (.int k a):=by simp [Lf];omega
def Ja (F:Option (Nat×Nat×PV)) (H:List Obj) (x y:V):Option (V×List Obj):=match F,x,y with
 | some (S,by',z),.p (.int .i64 n),.p (.int .i64 m)=>if n=m/\0<=n/\(by':Int)*n<=281474976710656/\n<=281474976710656 then some (.sl H.length 0 n.toNat n.toNat,H++ [.elems S (List.replicate n.toNat z)]) else none
 | _,_,_=>none
theorem FL {P:Program} {t:TypeId} {fr:List V} {H:List Obj} {x y:Operand} {F} (h:Ta P t=some F):Vd P (.makeSlice t x y) fr H=Ja (some F) H (ev fr x) (ev fr y):=by
 unfold Ta at h
 split at h
 ·rename_i e hu
  split at h
  ·rename_i S' z' b h1 h2 h3
   split at h
   ·rename_i hc;simp at h;subst h
    have h3':(P.info? e).map (fun x=>(x.bytes:Int))=some (b:Int):=by
     cases hi:P.info? e with
     | none=>grind
     | some i=>grind
    simp only [Vd,hu,h2,hc.1,if_true,Sc,h1,h3'];generalize ev fr x=X;generalize ev fr y=Y
    by_cases hX: ∃n,X= .p (.int .i64 n)
    ·obtain ⟨n,rfl⟩:=hX
     by_cases hY: ∃m,Y= .p (.int .i64 m)
     ·obtain ⟨m,rfl⟩:=hY;simp [Ja,hc.2]
     ·have e1:Ja (some (S',b,z')) H (.p (.int .i64 n)) Y=none:=by
       unfold Ja;grind
      grind
    ·have e1:Ja (some (S',b,z')) H X Y=none:=by
      unfold Ja;grind
     grind
   ·cases h
  ·cases h
 ·cases h
@[go_sem] theorem Zfi {H:List Obj} {S b:Nat} {z n} (h0:0<=n) (h1:(b:Int)*n<=281474976710656) (h2:n<=281474976710656):Ja (some (S,b,z)) H (.p (.int .i64 n)) (.p (.int .i64 n))=some (.sl H.length 0 n.toNat n.toNat,H++ [.elems S (List.replicate n.toNat z)]):=by
 simp_all [Ja]
theorem Zd7 (x y:Nat) (hx:x<9223372036854775808) (hy:y<9223372036854775808):IntKind.i64.wrap ((BitVec.ofInt 64 (x:Int)|||BitVec.ofInt 64 (y:Int)).toNat:Int)=((x|||y:Nat):Int):=by
 have e:(BitVec.ofInt 64 (x:Int)|||BitVec.ofInt 64 (y:Int)).toNat=x|||y:=by
  grind
 have h:x|||y<2^63:=Jn Za Za
 grind [IntWalk.i64_in]
theorem rI (x y:Nat) (hx:x<9223372036854775808) (hy:y<9223372036854775808):IntKind.i64.wrap ((BitVec.ofInt 64 (x:Int)&&&BitVec.ofInt 64 (y:Int)).toNat:Int)=((x&&&y:Nat):Int):=by
 grind [Nat.and_le_left,IntWalk.i64_in]
@[go_sem high] theorem gC {P:Program} {t:TypeId} {x y:Nat} (hx:x<9223372036854775808) (hy:y<9223372036854775808):Ys P .or t (.p (.int .i64 (x:Int))) (.p (.int .i64 (y:Int)))=some (.int .i64 ((x|||y:Nat):Int)):=by
 rw [R8];exact ZY (fun q=>some (PV.int .i64 q)) (Zd7 x y hx hy)
@[go_sem high] theorem T0 {P:Program} {t:TypeId} {x y:Nat} (hx:x<9223372036854775808) (hy:y<9223372036854775808):Ys P .and t (.p (.int .i64 (x:Int))) (.p (.int .i64 (y:Int)))=some (.int .i64 ((x&&&y:Nat):Int)):=by
 rw [gA];exact ZY (fun q=>some (PV.int .i64 q)) (rI x y hx hy)
def pw (k:Nat):Nat:=2^k
theorem Fu (k:Nat):pw (k+1)=2*pw k:=by grind [pw]
theorem KD {k m:Nat} (h:k<=m):pw k<=pw m:=YA Za h
theorem GK (k:Nat):0<pw k:=Nat.pow_pos Za
theorem GJ : pw 62=4611686018427387904:=by decide
@[go_sem high] theorem ZeU {P:Program} {t:TypeId} {k'} {a:Int} (h0:0<=a) (h1:a<=62):Ys P .shl t (.p (.int .i64 1)) (.p (.int k' a))=some (.int .i64 ((pw a.toNat:Nat):Int)):=by
 rw [gE h0]
 have h2:min a.toNat IntKind.i64.bits=a.toNat:=by show min a.toNat 64=a.toNat;omega
 rw [h2,Int.one_mul]
 have h3:((2:Int)^a.toNat)=((pw a.toNat:Nat):Int):=by simp [pw]
 rw [h3];have:=KD (show a.toNat<=62 by omega)
 grind [GJ,IntWalk.i64_in]
attribute [go_sem] List.length_append List.map_append not_false_eq_true not_true_eq_false false_and and_false true_or or_true false_or or_false Classical.not_not Bool.false_eq_true Bool.and_false Bool.false_and
end Go.AM
namespace Go.AM
open Go.RowKit
theorem LV {P ds frJ H} {K K':List V->Prop} : ∀(l:List Oper) (i:Nat) (vals:List V),(∀ys,ys.length=vals.length+l.length->K ys->K' ys)->hd P ds frJ H K i l vals->hd P ds frJ H K' i l vals
 | [],i,vals,hk,h=>hk vals rfl h
 | o::l,i,vals,hk,h=>by
  have ih: ∀y,hd P ds frJ H K (i+1) l (vals++ [y])->hd P ds frJ H K' (i+1) l (vals++ [y]):=fun y=>LV l (i+1) (vals++ [y]) fun ys hy=>hk ys (by simp at hy ⊢;omega);simp only [hd] at h ⊢
  split at h
  ·obtain ⟨y,h1,h2⟩:=h;exact ⟨y,h1,ih y h2⟩
  ·unfold XU at h ⊢
   split at h
   ·exact ⟨fun e=>by obtain ⟨y,h1,h2⟩:=h.1 e;exact ⟨y,h1,ih y h2⟩,fun e=>ih _ (h.2 e)⟩
   ·exact ih _ h
   ·exact h.elim
def hall : List (Option Nat)->List V->List V->List V
 | some d::ds,v::vals,fr=>hall ds vals (pt fr d v)
 | none::ds,_::vals,fr=>hall ds vals fr
 | _,_,fr=>fr
theorem BM (d:Option Nat) (v:V) (ds:List (Option Nat)) (vals:List V): ∀(l:List Nat) (fr:List V),ZS (d::ds) (v::vals) (l.map (· +1)) fr=ZS ds vals l fr
 | [],fr=>rfl
 | j::l,fr=>by
  simp only [Zr,ZS,CN]
  split<;>exact BM d v ds vals l _
theorem Gk : ∀(ds:List (Option Nat)) (vals:List V) (fr:List V),vals.length=ds.length->ZS ds vals (List.range ds.length) fr=hall ds vals fr
 | [],[],fr,_=>rfl
 | d::ds,v::vals,fr,h=>by
  have ih:=fun fr=>Gk ds vals fr (by simpa using h);rw [ZC,List.range_succ_eq_map]
  cases d with
  | none=>simp only [ZS,Fb,hall];rw [BM];exact ih fr
  | some d=>simp only [ZS,Fb,hall];rw [BM];exact ih _
 | [],_::_,_,h=>by simp at h
 | _::_,[],_,h=>by simp at h
theorem FQ {P:Program} {id:Nat} {l:List Oper} {fr:List V} {H:List Obj} {Q:Exit->List V->List Obj->Prop} {t} (hm:P.follows .mixedOrders=true) (hB:Ve (List.toArray l) l.length=true)
  (h:hd P (l.map (·.dst)) (Z5 (l.map (·.dst)) fr) H (Zu (fun vals=>Q .normal (hall (l.map (·.dst)) vals (Z5 (l.map (·.dst)) fr)) H) ⟨⟩) 0 l []) :
  AWP P (.region id (Zu (List.toArray l) t) true) fr H Q:=by
 refine HP (ops:=List.toArray l) l.length hm hB ?_;have e0:(List.toArray l).toList=l:=rfl;rw [e0];have e1:(l.map (fun x=>Oper.dst x)).take l.length=l.map (·.dst):=CP Zb;have e2:l.take l.length=l:=X5
 have e3:l.drop l.length= []:=Zb
 rw [e1,e2,e3];refine LV _ _ _ (fun ys hy hk=> ?_) h;have e4:=Gk (l.map (·.dst)) ys (Z5 (l.map (·.dst)) fr) (by grind);rw [Z2] at e4;simp only [YS];rw [e4];exact hk
def bL (A:V->Prop) (B:V->Prop):Prop:= ∃y,A y/\B y
section
variable {P : Program} {ds : List (Option Nat)} {frJ : List V} {H : List Obj} {K : List V -> Prop} {i : Nat} {r : List Oper} {vals : List V} {d : Option Nat} {op : Op} {t : TypeId} {ps : String} {af : Array Edge}
@[go_sem ↓] theorem ZoM : hd P ds frJ H K i [] vals=K vals:=Zl rfl rfl
@[go_sem ↓] theorem Zm4 : hd P ds frJ H K i (⟨d,op,t,ps,af,none⟩::r) vals=bL (fun y=>ZH P ⟨d,op,t,ps,af,none⟩ (LW (ZS ds vals (ZQ i ⟨d,op,t,ps,af,none⟩) frJ)) H (Zu (fun x H'=>x=y/\H'=H) ⟨⟩)) (Zu (fun y=>hd P ds frJ H K (i+1) r (vals++ [y])) ⟨⟩):=Zl rfl rfl
@[go_sem ↓, go_sem] theorem ZoC {v:V} {B:V->Prop} {t} :bL (fun y=>v=y) (Zu B t)=B v:=by simp [bL,Zu]
@[go_sem] theorem ZfN {l:List Edge} {g} :ZQ i ⟨d,op,t,ps,List.toArray l,g⟩=(l.filter fun e=>Region.binds .any e&&decide (e.on<i)).map (·.on):=Zl rfl rfl
@[go_sem] theorem ZaS {on} :Region.binds .any ⟨on,.data⟩=true:=Zl rfl rfl
@[go_sem] theorem yP {on} :Region.binds .any ⟨on,.phase⟩=true:=Zl rfl rfl
@[go_sem] theorem yO {on} :Region.binds .any ⟨on,.chain⟩=true:=Zl rfl rfl
@[go_sem] theorem ZaT {on k} :Region.binds .any ⟨on,.textOnly k⟩=false:=Zl rfl rfl
@[go_sem] theorem Ziy {on k} :Region.binds .any ⟨on,.gcOnly k⟩=false:=Zl rfl rfl
def SQ (ds:List (Option Nat)) (vals:List V) (l:List Nat) (fr:List V) (a:Option (Option Nat)) (v:Option V):List V:=match a,v with
 | some (some d),some v=>ZS ds vals l (pt fr d v)
 | _,_=>ZS ds vals l fr
@[go_sem] theorem Zje {fr} :ZS ds vals [] fr=fr:=Zl rfl rfl
@[go_sem] theorem ZfX {j l fr} :ZS ds vals (j::l) fr=SQ ds vals l fr ds[j]? vals[j]? :=by rfl
@[go_sem] theorem Zbo {l fr d v} :SQ ds vals l fr (some (some d)) (some v)=ZS ds vals l (pt fr d v):=Zl rfl rfl
@[go_sem] theorem ZfR {d ds v vals fr} :hall (some d::ds) (v::vals) fr=hall ds vals (pt fr d v):=Zl rfl rfl
@[go_sem] theorem Zi8 {fr} :hall [] [] fr=fr:=Zl rfl rfl
@[go_sem] theorem ZfW {fr} :Z5 [] fr=fr:=Zl rfl rfl
@[go_sem] theorem Zbn {d l fr} :Z5 (some d::l) fr=Z5 l (pt fr d .junk):=Zl rfl rfl
theorem Zo {f azs} {z:PV} {B:V->Prop} {t} (h:ACalls P f azs [] fun x H'=>x= .p z/\H'= []) (k:B (.p z)) (ha:Xv 0 azs=true:=by rfl) :
  bL (fun y=>ACalls P f azs H (Zu (Zu (fun x H'=>x=y/\H'=H) ⟨⟩) ⟨⟩)) (Zu B t) :=
 ⟨.p z,h.use ⟨rfl,rfl⟩ ha,k⟩
end
section
variable {P : Program} {fr : List V} {H : List Obj} {k : V -> List Obj -> Prop} {d : Option Nat} {t : TypeId} {ps : String} {af : Array Edge} {g : Option (Nat × Bool)}
@[go_sem ↓] theorem ZaF {u n l} :ZH P ⟨d,.buildSlice u n (List.toArray l),t,ps,af,g⟩ fr H k=BU ((Sa (U7 P u) H n (l.map fun x=>(x.1,ev fr x.2))).map .p) (Zu (fun v=>k v H) ⟨⟩):=by
 grind [ZH,BU,Zu]
@[go_sem] theorem Zan {S n l} :Sa (some S) H n l=if n=l.length/\n*S<=16777216/\0<S then (JH H S 0 l).map (.list false) else none:=Zl rfl rfl
@[go_sem ↓] theorem yF {x} :ZH P ⟨d,.move x,t,ps,af,g⟩ fr H k=Zy P ⟨d,.move x,t,ps,af,g⟩ fr H k:=rfl
@[go_sem ↓] theorem qT {x} :ZH P ⟨d,.assign x,t,ps,af,g⟩ fr H k=Zy P ⟨d,.assign x,t,ps,af,g⟩ fr H k:=rfl
@[go_sem ↓] theorem yG {x y z} :ZH P ⟨d,.pick x y z,t,ps,af,g⟩ fr H k=Zy P ⟨d,.pick x y z,t,ps,af,g⟩ fr H k:=rfl
@[go_sem ↓] theorem sA {x} :ZH P ⟨d,.alloc x,t,ps,af,g⟩ fr H k=Zy P ⟨d,.alloc x,t,ps,af,g⟩ fr H k:=rfl
@[go_sem ↓] theorem ZaD {x y} :ZH P ⟨d,.box x y,t,ps,af,g⟩ fr H k=Zy P ⟨d,.box x y,t,ps,af,g⟩ fr H k:=rfl
@[go_sem ↓] theorem sC {x y} :ZH P ⟨d,.build x y,t,ps,af,g⟩ fr H k=Zy P ⟨d,.build x y,t,ps,af,g⟩ fr H k:=rfl
@[go_sem ↓] theorem yE {x y} :ZH P ⟨d,.load x y,t,ps,af,g⟩ fr H k=Zy P ⟨d,.load x y,t,ps,af,g⟩ fr H k:=rfl
@[go_sem ↓] theorem sG {x y z} :ZH P ⟨d,.store x y z,t,ps,af,g⟩ fr H k=Zy P ⟨d,.store x y z,t,ps,af,g⟩ fr H k:=rfl
@[go_sem ↓] theorem fJ {x} :ZH P ⟨d,.nilCheck x,t,ps,af,g⟩ fr H k=Zy P ⟨d,.nilCheck x,t,ps,af,g⟩ fr H k:=rfl
@[go_sem ↓] theorem sB {x y z u v} :ZH P ⟨d,.binOp x y z u v,t,ps,af,g⟩ fr H k=Zy P ⟨d,.binOp x y z u v,t,ps,af,g⟩ fr H k:=rfl
@[go_sem ↓] theorem yH {x y z} :ZH P ⟨d,.unOp x y z,t,ps,af,g⟩ fr H k=Zy P ⟨d,.unOp x y z,t,ps,af,g⟩ fr H k:=rfl
@[go_sem ↓] theorem iB {x y z} :ZH P ⟨d,.convert x y z,t,ps,af,g⟩ fr H k=Zy P ⟨d,.convert x y z,t,ps,af,g⟩ fr H k:=rfl
@[go_sem ↓] theorem fI {x y z} :ZH P ⟨d,.makeFunc x y z,t,ps,af,g⟩ fr H k=Zy P ⟨d,.makeFunc x y z,t,ps,af,g⟩ fr H k:=rfl
@[go_sem ↓] theorem aG {x y z} :ZH P ⟨d,.makeSlice x y z,t,ps,af,g⟩ fr H k=Zy P ⟨d,.makeSlice x y z,t,ps,af,g⟩ fr H k:=rfl
@[go_sem ↓] theorem sF {x y z u v} :ZH P ⟨d,.slice x y z u v,t,ps,af,g⟩ fr H k=Zy P ⟨d,.slice x y z u v,t,ps,af,g⟩ fr H k:=rfl
@[go_sem ↓] theorem aD {x y z} :ZH P ⟨d,.fieldAddr x y z,t,ps,af,g⟩ fr H k=Zy P ⟨d,.fieldAddr x y z,t,ps,af,g⟩ fr H k:=rfl
@[go_sem ↓] theorem sD {x y z} :ZH P ⟨d,.field x y z,t,ps,af,g⟩ fr H k=Zy P ⟨d,.field x y z,t,ps,af,g⟩ fr H k:=rfl
@[go_sem ↓] theorem aF {x y z} :ZH P ⟨d,.indexAddr x y z,t,ps,af,g⟩ fr H k=Zy P ⟨d,.indexAddr x y z,t,ps,af,g⟩ fr H k:=rfl
@[go_sem ↓] theorem sE {x y z} :ZH P ⟨d,.index x y z,t,ps,af,g⟩ fr H k=Zy P ⟨d,.index x y z,t,ps,af,g⟩ fr H k:=rfl
@[go_sem ↓] theorem iC {x y} :ZH P ⟨d,.extract x y,t,ps,af,g⟩ fr H k=Zy P ⟨d,.extract x y,t,ps,af,g⟩ fr H k:=rfl
@[go_sem ↓] theorem yD {x y z} :ZH P ⟨d,.call ⟨.value x,y,z⟩,t,ps,af,g⟩ fr H k=Zy P ⟨d,.call ⟨.value x,y,z⟩,t,ps,af,g⟩ fr H k:=rfl
@[go_sem ↓] theorem ZaE {y z} :ZH P ⟨d,.call ⟨.builtin .len,y,z⟩,t,ps,af,g⟩ fr H k=Zy P ⟨d,.call ⟨.builtin .len,y,z⟩,t,ps,af,g⟩ fr H k:=rfl
@[go_sem ↓] theorem ZaG {y z} :ZH P ⟨d,.call ⟨.builtin .max,y,z⟩,t,ps,af,g⟩ fr H k=Zy P ⟨d,.call ⟨.builtin .max,y,z⟩,t,ps,af,g⟩ fr H k:=rfl
@[go_sem ↓] theorem ZaH {y z} :ZH P ⟨d,.call ⟨.builtin .min,y,z⟩,t,ps,af,g⟩ fr H k=Zy P ⟨d,.call ⟨.builtin .min,y,z⟩,t,ps,af,g⟩ fr H k:=rfl
def SH (P:Program) (H:List Obj) (t u:TypeId) (x y:V) (k:V->List Obj->Prop):Prop:= ∃S zs,Vc P H t u x y=some (.sl H.length 0 zs.length zs.length,H++ [.elems S zs])/\k (.p (.list false zs)) H
@[go_sem ↓] theorem qS {x y u u2} :ZH P ⟨d,.call ⟨.builtin .append,#[x,y],#[u,u2]⟩,t,ps,af,g⟩ fr H k=SH P H u u2 (ev fr x) (ev fr y) (Zu k ⟨⟩):=rfl
def aA (F:Option (Nat×Nat)) (xs:List PV) (ys:Option (List PV)):Option PV:=match F,ys with
 | some (S,by'),some ys=>if A3 S ys=true/\A3 S xs=true/\(xs= []\/0<ys.length)/\(xs.length+ys.length)*by'<=140737488355328/\xs.length+ys.length<=140737488355328 then some (.list false (xs++ys)) else none
 | _,_=>none
@[go_sem] theorem Zfs {α:Type} {S b} {f:α->PV} {l:List α} {x:PV} (hb:(l.length+1)*b<=140737488355328) (hb2:l.length+1<=140737488355328):aA (some (S,b)) (l.map f) (some [x])=if A3 S [x]=true/\A3 S (l.map f)=true then some (.list false (l.map f++ [x])) else none:=by
 grind [aA]
theorem P1 {u u2:TypeId} {F} {xs:List PV} {y:V} (hF:Jc P u=some F) {tt} :SH P H u u2 (.p (.list true xs)) y (Zu k tt)=BU ((aA (some F) xs (YR (P.underlying u2) H y)).map .p) (Zu (fun v=>k v H) ⟨⟩):=by
 obtain ⟨S,by'⟩:=F;obtain ⟨e,z,h1,h2,h3,h4,h6⟩:=FN hF;have e1:YR (P.underlying u2) H y=Ho P H u2 y:=Zl rfl rfl;rw [e1];unfold SH Zu
 cases h5:Ho P H u2 y with
 | none =>
  grind [Vc,aA,BU]
 | some ys =>
  rw [I7 h1 h2 h3 h4 h5 h6];simp only [aA]
  by_cases hc:A3 S ys=true
  ·rw [if_pos hc];simp only [hc,true_and]
   by_cases hd:A3 S xs=true/\(xs= []\/0<ys.length)/\(xs.length+ys.length)*by'<=140737488355328/\xs.length+ys.length<=140737488355328
   ·rw [if_pos hd,if_pos hd];simp only [AS,BU,eq_iff_iff]
    constructor
    ·simp_all
    ·intro hk;exact ⟨S,xs++ys,Zb,hk⟩
   simp_all [if_neg,BU]
  ·simp [hc,BU]
theorem Lp {o fr' H'} (h:fr=fr') (h2:H=H'):ZH P o fr H k=ZH P o fr' H' k:=by rw [h,h2]
end
attribute [congr] Lp
attribute [go_sem] List.filter_cons List.filter_nil
end Go.AM
namespace Go.AM
open Go.RowKit
mutual
/-- no memory in it -/
def P9 : PV->Bool
 | .list _ xs=>xs.isEmpty
 | .agg cs=>NH cs
 | _=>true
def NH : List PV->Bool
 | []=>true
 | x::l=>P9 x&&NH l
end
theorem AF : ∀ {l:List PV},NH l=true-> ∀(j:Nat) (x:PV),l[j]? =some x->P9 x=true
 | [],_,j,x,h=>by simp at h
 | y::l,hh,j,x,h=>by
  simp [NH] at hh
  cases j with
  | zero=>simp at h;subst h;exact hh.1
  | succ j=>exact AF hh.2 j x (by simpa using h)
theorem RP.anywhere {X X':Nat->Prop} {w w' x v} (h:RP X w x v) (hf:P9 x=true):RP X' w' x v:=by
 induction h with
 | int k n=>exact .int k n
 | bool b=>exact .bool b
 | str s=>exact .str s
 | nilp=>exact .nilp
 | nili=>exact .nili
 | nilf=>exact .nilf
 | nilm=>exact .nilm
 | fn f=>exact .fn f
 | nils cl=>exact .nils cl
 | emp cl a cap hc hm ha=>exact .emp cl a cap hc hm ha
 | list cl xs b off cap S u hX hb hc hm hcl hS hu hr ih =>
  have:xs= []:=by grind [P9]
  subst this;exact .emp cl _ cap (fun h=>by grind) hm (fun _ x hx=>by grind)
 | agg cs a hs _ ih=>exact .agg cs a hs fun j c hj=>ih j c hj (AF (by grind [P9]) j c hj)
def vw (H:List Obj):V->Option V
 | .p x=>some (.p x)
 | .fn f [] []=>some (.fn f [] [])
 | .sl o off len tot=>match oat H o with
  | .elems _ xs=>if xs.length=tot/\off+len<=tot then some (.p (.list false ((xs.take (off+len)).drop off))) else none
  | _=>none
 | _=>none
def vws (H:List Obj):List V->Option (List V)
 | []=>some []
 | x::l=>match vw H x,vws H l with | some y,some ys=>some (y::ys) | _,_=>none
abbrev Bi : Nat->Prop:=fun _=>False
theorem C9 {b:Nat} : ¬Own Bi [] b:=by simp [Own]
theorem ZkZ {F H ι w x v y} (hr:Rel F H ι w) (h:RV F H ι w x v) (hy:vw H x=some y):RV Bi [] [] w y v:=by
 unfold vw at hy
 split at hy
 ·simp at hy;subst hy
  cases h with | p _ _ h=>exact .p _ _ (h.weaker fun b hb=>absurd hb C9)
 ·simp at hy;subst hy;generalize v=u at h
  cases h with
  | fn _ _ _ a e hs ht _ _=>exact .fn _ [] [] a e hs ht (fun j c hj=>by simp at hj) (fun j c hj=>by simp at hj)
 ·rename_i o off len tot
  split at hy
  ·rename_i S xs ho
   split at hy
   ·rename_i hc;simp at hy;subst hy;exact .p _ _ (BY _ (fun b _ hb=>C9 hb) (fun b _ hs=>⟨C9,hs,rfl⟩) hr (XC ho Zb) hc.1 hc.2 h)
   ·cases hy
  ·cases hy
 ·cases hy
theorem TW {H} : ∀ {l l':List V},vws H l=some l'->l'.length=l.length/\ ∀(j:Nat) (y:V),l'[j]? =some y-> ∃x,l[j]? =some x/\vw H x=some y
 | [],l',h=>by simp [vws] at h;grind
 | x::l,l',h=>by
  simp only [vws] at h
  split at h
  ·rename_i y ys h1 h2;simp at h;subst h;obtain ⟨e,hg⟩:=TW h2;refine ⟨by simp [e],fun j z hj=> ?_⟩
   cases j with
   | zero=>simp at hj;subst hj;exact ⟨x,Zb,h1⟩
   | succ j=>obtain ⟨q,q1,q2⟩:=hg j z (by simpa using hj);exact ⟨q,by simpa using q1,q2⟩
  ·cases h
theorem Good.lift {F H ι w H1 ι1 w'} (hr:Rel F H ι w) (g:Good Bi [] [] w H1 ι1 w') (h1: ∀(o:Nat) (ob:Obj),H1[o]? =some ob-> ∃S xs,ob= .elems S xs/\NH xs=true):Good (Own F ι) [] [] w H1 ι1 w':=by
 have hnew: ∀b,some b∈ι1-> ¬b<w.heap.size:=fun b hb hlt=>g.own b hlt Zb hb
 have hold: ∀b,Own F ι b->b<w.heap.size:=fun b hb=>by
  rcases hb with hb | hb
  ·exact hr.fin b hb
  ·obtain ⟨i,hi⟩:=Xf.1 hb;exact (hr.avo i b hi).2
 refine Good.up hr.env.fresh ⟨⟨g.rel.len,fun b hb=>by have:=hold b hb;have:=g.size;omega,g.rel.inj,fun i b hi=> ?_,fun o cs ho=> ?_,fun o S xs ho=> ?_,fun o es ho=>(by grind),fun o T E r bs ho=>(by grind)⟩,g.os,g.tape,g.output,g.shape,g.size,g.keep,g.own,g.hx⟩
 ·refine ⟨fun hb=>hnew b (XG hi) (hold b hb),(g.rel.avo i b hi).2⟩
 ·grind
 ·rcases g.rel.elm o S xs ho with e | ⟨b,c,t,cap,e1,e2,e3,e4,e5,e6,e7⟩
  ·exact .inl e
  ·refine .inr ⟨b,c,t,cap,e1,e2,e3,e4,e5,e6,fun i x j y hi hj=> ?_⟩;obtain ⟨S',xs',e,hf⟩:=h1 o _ ho;simp at e;obtain ⟨rfl,rfl⟩:=e;have hx:=AF hf i x hi;refine (e7 i x j y hi hj).anywhere ?_
   cases x<;>simp only [PV.cells] at hj
   case agg cs=>grind [AF,P9]
   all_goals (cases j with
    | zero=>simp at hj;subst hj;exact hx
    | succ j=>simp at hj)
theorem GO {w:World} (he:Env Bi [] w):Rel Bi [] [] w:=⟨⟨rfl,fun b hb=>hb.elim,fun i j b hi=>by simp at hi,fun i b hi=>by simp at hi,fun o cs ho=>by simp at ho,fun o S xs ho=>by simp at ho,fun o es ho=>by simp at ho,fun o T E r bs ho=>by simp at ho⟩,he⟩
theorem ACalls.view {P g args args'} {y:PV} {H:List Obj} {K:V->List Obj->Prop} (h:ACalls P g args' [] fun x H'=>x= .p y/\H'= []) (hv:vws H args=some args') (hy:P9 y=true) (k:K (.p y) H):ACalls P g args H K:=by
 refine ⟨h.1,fun F ι w vs hr hvs=> ?_⟩;obtain ⟨e,hg⟩:=TW hv;refine (h.2 Bi [] w vs (GO hr.env.noth) ⟨by rw [hvs.1,e],fun j c hj=> ?_⟩).mono ?_
 ·obtain ⟨x,h1,h2⟩:=hg j c hj;exact ZkZ hr (hvs.2 j x h1) h2
 ·rintro e w' ⟨x,H',ι',v,rfl,⟨rfl,rfl⟩,gd,rv⟩;have g2:=(gd.lift hr (fun o ob ho=>by simp at ho)).behind hr;have hι:ι'= []:=YG gd.rel.len;subst hι;simp only [Zn,Wy] at g2
  cases rv with | p _ _ rp =>
  exact ⟨_,H,ι,v,rfl,k,g2,.p _ _ (rp.anywhere hy)⟩
def rd1 (H:List Obj):V->Option PV
 | .p x=>some x
 | .sl o off len tot=>match oat H o with
  | .elems _ xs=>if xs.length=tot/\off+len<=tot then some (.list false ((xs.take (off+len)).drop off)) else none
  | _=>none
 | _=>none
def rds (H:List Obj):List V->Option (List PV)
 | []=>some []
 | x::l=>match rd1 H x,rds H l with | some y,some ys=>some (y::ys) | _,_=>none
def rd (H:List Obj):V->Option PV
 | .agg cs=>(rds H cs).map .agg
 | x=>rd1 H x
@[go_sem] theorem Zmn {o off len tot r} :QJ (.sl o off len tot::r)=none:=Zl rfl rfl
attribute [go_sem] Option.map_none
end Go.AM
namespace Go.Proofs.YtenjikkmmibffaaGreatDoor.K
open Go Go.AM
def Ed (be:List (Int×Int)) (a b:Nat):Prop:= ∃p∈be,p.1=(a:Int)/\p.2=(b:Int)
inductive Ch (be:List (Int×Int)):Nat->Nat->Prop where
 | one {a b} (h:Ed be a b):Ch be a b
 | more {a b c} (h:Ch be a b) (k:Ed be b c):Ch be a c
def Val (n:Nat) (be:List (Int×Int)):Prop:= ∀p∈be,0<=p.1/\p.1<n/\0<=p.2/\p.2<n
def EO (out:List Nat) (p:Int×Int):List Nat:=out.set p.2.toNat (nth out p.2.toNat|||nth out p.1.toNat|||pw p.1.toNat)
def Fs (out:List Nat) (be:List (Int×Int)):List Nat:=be.foldl EO out
structure Snd (n:Nat) (be:List (Int×Int)) (out:List Nat):Prop where
 len:out.length=n
 lt: ∀b,b<n->nth out b<pw n
 snd: ∀a b,b<n->(nth out b).testBit a=true->Ch be a b
structure Clo (n:Nat) (be:List (Int×Int)) (out:List Nat):Prop extends Snd n be out where
 cmp: ∀a b,Ch be a b->(nth out b).testBit a=true
theorem Fm (l:List Nat) (i j v:Nat) (h:j<l.length):nth (l.set i v) j=if i=j then v else nth l j:=by
 grind [nth]
theorem Snd.zero (n be):Snd n be (List.replicate n 0):=by
 refine ⟨Zb,fun b hb=> ?_,fun a b hb h=> ?_⟩
 ·grind [Zh,GK]
 grind [Zh]
theorem Kx (a b:Nat):(pw a).testBit b=decide (a=b):=by grind [pw]
theorem Snd.step {n be out} (hv:Val n be) (hs:Snd n be out) {p} (hp:p∈be):Snd n be (EO out p):=by
 obtain ⟨h1,h2,h3,h4⟩:=hv p hp;refine ⟨by simp [EO,hs.len],fun b hb=> ?_,fun a b hb h=> ?_⟩
 ·rw [EO,Fm _ _ _ _ (by rw [hs.len];exact hb)]
  split
  ·have e1:=hs.lt p.2.toNat Za;have e2:=hs.lt p.1.toNat Za
   have e3:pw p.1.toNat<pw n:=by
    have:=Fu p.1.toNat;have h5:pw (p.1.toNat+1)<=pw n:=KD Za;omega
   exact Jn (Jn e1 e2) e3
  ·exact hs.lt b hb
 ·rw [EO,Fm _ _ _ _ (by rw [hs.len];exact hb)] at h
  split at h
  ·rename_i hb2;have hE:Ed be p.1.toNat b:=⟨p,hp,Za,Za⟩;simp only [AT,W8] at h;rcases h with (h | h) | h
   ·exact hs.snd a b hb (by grind)
   ·exact (hs.snd a _ Za h).more hE
   ·rw [Kx] at h;simp at h;subst h;exact .one hE
  ·exact hs.snd a b hb h
theorem Snd.rnd {n be out} (hv:Val n be) (hs:Snd n be out): ∀(l:List (Int×Int)),(∀p∈l,p∈be)->Snd n be (Fs out l):=by
 intro l
 induction l generalizing out with
 | nil=>intro _;exact hs
 | cons p l ih=>intro h;exact ih (hs.step hv (h p Zb)) fun q hq=>h q (by simp [hq])
theorem zH (x y:Nat):x<=x|||y:=Nat.left_le_or
def tot (l:List Nat):Nat:=l.foldr (· + ·) 0
theorem TR : ∀(l:List Nat) (i v:Nat),i<l.length->tot (l.set i v)+nth l i=tot l+v
 | [],i,v,h=>by simp at h
 | x::l,0,v,h=>by simp [tot,nth];omega
 | x::l,i+1,v,h=>by
  have:=TR l i v (by simpa using h);simp only [Xa,tot,List.foldr_cons,nth,List.getD_cons_succ] at this ⊢;omega
theorem qC : ∀(l:List Nat) (m:Nat),(∀i,i<l.length->nth l i<m)->tot l<=l.length*m
 | [],m,h=>by simp [tot]
 | x::l,m,h=>by
  have h0:=h 0 Zb
  have:=qC l m fun i hi=>by have:=h (i+1) (by grind);grind [nth]
  grind [tot,XT,nth]
theorem Sy (out:List Nat) (p:Int×Int) (h:p.2.toNat<out.length):tot out<=tot (EO out p)/\(tot (EO out p)=tot out->EO out p=out):=by
 have e:=TR out p.2.toNat (nth out p.2.toNat|||nth out p.1.toNat|||pw p.1.toNat) h;have h1:nth out p.2.toNat<=nth out p.2.toNat|||nth out p.1.toNat|||pw p.1.toNat:=AX (zH _ _) (zH _ _);refine ⟨by rw [EO];omega,fun he=> ?_⟩;rw [EO] at he ⊢
 have:nth out p.2.toNat|||nth out p.1.toNat|||pw p.1.toNat=nth out p.2.toNat:=Za
 simp_all [Zh]
theorem Ru (out l m):Fs out (l++m)=Fs (Fs out l) m:=by grind [Fs]
theorem Da {n be} (hv:Val n be): ∀(l:List (Int×Int)) (out:List Nat),(∀p∈l,p∈be)->Snd n be out->tot out<=tot (Fs out l)/\(tot (Fs out l)=tot out->Fs out l=out/\ ∀p∈l,EO out p=out)
 | [],out,_,_=>⟨Zw _,fun _=>⟨rfl,fun p hp=>by simp at hp⟩⟩
 | p::l,out,hl,hs=>by
  obtain ⟨h1,h2,h3,h4⟩:=hv p (hl p Zb);have c:=Sy out p (by rw [hs.len];omega);have r:=Da hv l (EO out p) (fun q hq=>hl q (by simp [hq])) (hs.step hv (hl p Zb));refine ⟨AX c.1 r.1,fun e=> ?_⟩;have e:tot (Fs (EO out p) l)=tot out:=e
  have e1:tot (EO out p)=tot out:=Za
  have e2:=c.2 e1
  have e3:tot (Fs (EO out p) l)=tot (EO out p):=Za
  obtain ⟨e4,e5⟩:=r.2 e3;rw [e2] at e4 e5;refine ⟨by grind [Fs],fun q hq=> ?_⟩
  grind
theorem Snd.clo {n be out} (hv:Val n be) (hs:Snd n be out) (h:tot (Fs out be)=tot out):Clo n be out:=by
 have hc:=((Da hv be out (fun _ h=>h) hs).2 h).2
 have key: ∀p∈be,∀a,(a=p.1.toNat\/(nth out p.1.toNat).testBit a=true)->(nth out p.2.toNat).testBit a=true:=fun p hp a ha=>by
  obtain ⟨h1,h2,h3,h4⟩:=hv p hp;have e:=hc p hp
  have e2:nth (EO out p) p.2.toNat=nth out p.2.toNat:=by rw [e]
  rw [EO,Fm _ _ _ _ (by rw [hs.len];omega)] at e2;simp only [if_true] at e2;rw [<- e2];simp only [AT,W8,Kx,Zs]
  grind
 refine ⟨hs,fun a b hab=> ?_⟩
 induction hab with
 | one h =>
  obtain ⟨p,hp,e1,e2⟩:=h;have:=key p hp p.1.toNat (.inl rfl)
  grind
 | more _ h ih =>
  obtain ⟨p,hp,e1,e2⟩:=h;have:=key p hp _ (.inr (by rw [e1];exact ih))
  grind
theorem Clo.uniq {n be out out'} (hv:Val n be) (h:Clo n be out) (h':Clo n be out'):out=out':=by
 apply Jo (by rw [h.len,h'.len]);intro b h1 h2;rw [<- Zh h1,<- Zh h2];apply CT;intro a;rw [Wf];rw [h.len] at h1;exact ⟨fun e=>h'.cmp a b (h.snd a b h1 e),fun e=>h.cmp a b (h'.snd a b h1 e)⟩
theorem Snd.bound {n be out} (hs:Snd n be out):tot out<=n*pw n:=by
 have:=qC out (pw n) fun i hi=>hs.lt i (by rw [<- hs.len];exact hi);rwa [hs.len] at this
theorem jH {n be} (hv:Val n be): ∀(k:Nat) (out:List Nat),Snd n be out->n*pw n-tot out<k-> ∃out',Clo n be out'
 | 0,out,_,h=>Za
 | k+1,out,hs,h=>by
  by_cases he:tot (Fs out be)=tot out
  ·exact ⟨out,hs.clo hv he⟩
  ·have hp:=hs.rnd hv be fun _ h=>h;have:=hp.bound;have:=(Da hv be out (fun _ h=>h) hs).1;exact jH hv k (Fs out be) hp Za
noncomputable def Kz (n:Nat) (be:List (Int×Int)):List Nat:=open Classical in if h: ∃out,Clo n be out then h.choose else []
theorem FZ {n be} (hv:Val n be):Clo n be (Kz n be):=by
 have h:=jH hv _ (List.replicate n 0) (Snd.zero n be) (Nat.lt_succ_self _);rw [Kz,dif_pos h]
 grind
theorem jG {n be out} (hv:Val n be) (h:Clo n be out):Kz n be=out:=(FZ hv).uniq hv h
theorem Qe {n be} (hv:Val n be) (a b:Nat) (hb:b<n):(nth (Kz n be) b).testBit a=true↔Ch be a b :=
 ⟨(FZ hv).snd a b hb,(FZ hv).cmp a b⟩
end Go.Proofs.YtenjikkmmibffaaGreatDoor.K
