/- Declarations that the closing texts need, part 4: joined by tools/slim.py. -/
import Derived.Test.YtenjikkmmibffaaGreatDoorY3
set_option linter.unusedVariables false
set_option linter.unusedSimpArgs false
universe u
namespace Go.AM
open Go.RowKit
structure Tk {α:Sort u} (a:α):Type where
def Zu {α:Sort u} (a:α) (_:Tk a):α:=a
@[go_sem] theorem ZeV {α β:Type} {f:α->β} {t x} :Zu f t x=f x:=Zk rfl rfl
@[go_sem ↓] theorem ZeW {α β:Type} {f:α->β->Prop} {t x y} :Zu f t x y=f x y:=Zk rfl rfl
@[go_sem ↓] theorem ZeX {α β γ:Type} {f:α->β->γ->Prop} {t x y z} :Zu f t x y z=f x y z:=Zk rfl rfl
def BE (x:Option V) (K:V->Prop):Prop:=match x with | some v=>K v | none=>False
def Bf (x:Option (V×List Obj)) (K:V->List Obj->Prop):Prop:=match x with | some (v,H)=>K v H | none=>False
def bst (x:V) (K:Bool->Prop):Prop:=match x with | .p (.bool b)=>K b | _=>False
def hst (x:Option (List Obj)) (K:List Obj->Prop):Prop:=match x with | some H=>K H | none=>False
@[go_sem ↓, go_sem] theorem ZjS {v K} :BE (some v) K=K v:=Zk rfl rfl
@[go_sem ↓, go_sem] theorem Zjz {v H K} :Bf (some (v,H)) K=K v H:=Zk rfl rfl
@[go_sem ↓, go_sem] theorem Zia {H K} :hst (some H) K=K H:=Zk rfl rfl
@[congr] theorem Zfe {x x' K} (h:x=x'):BE x K=BE x' K:=by rw [h]
@[congr] theorem Ze7 {x x' K} (h:x=x'):Bf x K=Bf x' K:=by rw [h]
@[congr] theorem Ze0 {x x' K} (h:x=x'):hst x K=hst x' K:=by rw [h]
def Lk (fr:List V):List V:=fr
@[go_sem] theorem ZnP {fr} :Lk fr=fr:=Zk rfl rfl
section code
variable {cuts : List Nat} {P : Program} {fr : List V} {H : List Obj} {Q : Exit -> List V -> List Obj -> Prop}
@[go_sem ↓] theorem ZeJ : JK cuts P .skip fr H Q=Q .normal fr H:=Zk rfl rfl
@[go_sem ↓] theorem wD {id} {l:List Oper} :JK cuts P (.region id l.toArray false) fr H Q=YH P (l.map (·.dst)) l (Lk fr) H (Zu (Q .normal) ⟨⟩):=by rfl
@[go_sem ↓] theorem zG {id ops} :JK cuts P (.region id ops true) fr H Q=AWP P (.region id (Zu ops ⟨⟩) true) fr H (Zu Q ⟨⟩):=by rfl
@[go_sem ↓] theorem Zhz {x y} :JK [] P (.seq x y) fr H Q=JK [] P x fr H (QS (fun fr H=>JK [] P y fr H Q) Q):=by
 grind [JK]
def nC (b:Bool) (A B:Prop):Prop:=if b then A else B
def MP (cuts:List Nat):Option Nat->Bool
 | some i=>cuts.contains i
 | none=>false
@[go_sem ↓] theorem ZeI {k x y} :JK (k::cuts) P (.seq x y) fr H Q=nC (MP (k::cuts) (Nf x)) (Zu (AWP P (.seq (Zu x ⟨⟩) (Zu y ⟨⟩)) fr H (Zu Q ⟨⟩)) ⟨⟩) (Zu (JK (k::cuts) P x fr H (QS (fun fr H=>JK (k::cuts) P y fr H Q) Q)) ⟨⟩):=by
 rfl
@[go_sem ↓, go_sem] theorem Zfg {A B:Prop} {t} :nC true (Zu A t) B=A:=by rfl
@[go_sem ↓, go_sem] theorem Zdp {A B:Prop} {t} :nC false A (Zu B t)=B:=by rfl
theorem Rf {b b' A B} (h:b=b'):nC b A B=nC b' A B:=by rw [h]
@[go_sem ↓] theorem Zal {id ops d} :Nf (.region id ops d)=some id:=Zk rfl rfl
@[go_sem ↓] theorem Zl9 {x y} :Nf (.seq x y)=Nf x:=Zk rfl rfl
@[go_sem ↓] theorem ZeU {id c} :Nf (.block id c)=Nf c:=Zk rfl rfl
@[go_sem ↓] theorem Zh5 {c x y} :Nf (.cond c x y)=none:=Zk rfl rfl
@[go_sem ↓] theorem Zh7 {c} :Nf (.loop c)=none:=Zk rfl rfl
@[go_sem] theorem zZ : MP cuts none=false:=Zk rfl rfl
@[go_sem] theorem ZeO {i} :MP [] (some i)=false:=Zk rfl rfl
@[go_sem] theorem zY {k i} :MP (k::cuts) (some i)=(decide (i=k)||MP cuts (some i)):=by rfl
@[go_sem ↓] theorem ZeE {c x y} :JK cuts P (.cond c x y) fr H Q=UN (ev fr c) (Zu (JK cuts P x fr H Q) ⟨⟩) (Zu (JK cuts P y fr H Q) ⟨⟩):=Zk rfl rfl
@[go_sem ↓] theorem zF {id c} :JK cuts P (.block id c) fr H Q=JK cuts P c fr H (Q0 id Q):=Zk rfl rfl
@[go_sem ↓] theorem ZeF {id} :JK cuts P (.exit id) fr H Q=Q (.exit id) fr H:=Zk rfl rfl
@[go_sem ↓] theorem Zhy : JK cuts P .ret fr H Q=Q .ret fr H:=Zk rfl rfl
@[go_sem ↓] theorem ZeH {c} :JK cuts P (.loop c) fr H Q=AWP P (.loop (Zu c ⟨⟩)) fr H (Zu Q ⟨⟩):=Zk rfl rfl
@[go_sem ↓] theorem ZeG {c t} :JK cuts P (Zu c t) fr H Q=JK cuts P c fr H Q:=Zk rfl rfl
theorem TH {c fr' H'} (h:fr=fr') (h2:H=H'):JK cuts P c fr H Q=JK cuts P c fr' H' Q:=by rw [h,h2]
theorem Th {c fr' H'} (h:fr=fr') (h2:H=H'):AWP P c fr H Q=AWP P c fr' H' Q:=by rw [h,h2]
@[go_sem ↓] theorem uV {A:List V->List Obj->Prop} :QS A Q .normal fr H=A fr H:=Zk rfl rfl
@[go_sem ↓] theorem Zdz {A:List V->List Obj->Prop} {id} :QS A Q (.exit id) fr H=Q (.exit id) fr H:=Zk rfl rfl
@[go_sem ↓] theorem Zgj {A:List V->List Obj->Prop} :QS A Q .ret fr H=Q .ret fr H:=Zk rfl rfl
@[go_sem ↓] theorem oP {id} :Q0 id Q .normal fr H=Q .normal fr H:=Zk rfl rfl
@[go_sem ↓] theorem zK {id} :Q0 id Q .ret fr H=Q .ret fr H:=Zk rfl rfl
@[go_sem ↓] theorem wG {id id'} :Q0 id Q (.exit id') fr H=if id'=id then Q .normal fr H else Q (.exit id') fr H:=Zk rfl rfl
theorem Ou {A:List V->List Obj->Prop} {e fr' H'} (h:fr=fr') (h2:H=H'):QS A Q e fr H=QS A Q e fr' H':=by rw [h,h2]
theorem IV {id e fr' H'} (h:fr=fr') (h2:H=H'):Q0 id Q e fr H=Q0 id Q e fr' H':=by rw [h,h2]
@[go_sem ↓] theorem xH {rs} {Q:V->List Obj->Prop} :BG P rs Q .normal fr H=Bf ((Wr P fr H rs).map fun xs=>(Je xs,H)) (Zu Q ⟨⟩):=by
 simp only [BG,Zu];grind [Bf]
@[go_sem ↓] theorem ZjX {rs} {Q:V->List Obj->Prop} :BG P rs Q .ret fr H=Bf ((Wr P fr H rs).map fun xs=>(Je xs,H)) (Zu Q ⟨⟩):=by
 simp only [BG,Zu];grind [Bf]
theorem Ra {rs e fr' H'} {Q:V->List Obj->Prop} (h:fr=fr') (h2:H=H'):BG P rs Q e fr H=BG P rs Q e fr' H':=by rw [h,h2]
@[go_sem] theorem Zdj : Wr P fr H []=some []:=Zk rfl rfl
@[go_sem] theorem Zdk {t l} :Wr P fr H (.tmp t::l)=(Wr P fr H l).map (gt fr t:: ·):=by
 simp only [Wr,bY];cases Wr P fr H l<;>rfl
@[go_sem] theorem xF {a t l} :Wr P fr H (.cell a t::l)=(Jm P H t (gt fr a)).bind fun x=>(Wr P fr H l).map (x:: ·):=by
 simp only [Wr,bY];cases Jm P H t (gt fr a)<;>cases Wr P fr H l<;>rfl
@[go_sem] theorem Zdl {x} :Je [x]=x:=Zk rfl rfl
@[go_sem] theorem xG : Je []= .tup []:=Zk rfl rfl
@[go_sem] theorem P9 {x y l} :Je (x::y::l)= .tup (x::y::l):=Zk rfl rfl
end code
attribute [congr] Rf TH Th Ou IV Ra
@[go_sem] theorem Zl7 {x:V} {l} :gt (x::l) 0=x:=Zk rfl rfl
@[go_sem] theorem Zl6 {x:V} {l n} :gt (x::l) (n+1)=gt l n:=Zk rfl rfl
@[go_sem] theorem ZnM {n} :gt [] n= .junk:=Zk rfl rfl
@[go_sem] theorem Zms {x v:V} {l} :pt (x::l) 0 v=v::l:=Zk rfl rfl
@[go_sem] theorem Zmr {x v:V} {l n} :pt (x::l) (n+1) v=x::pt l n v:=Zk rfl rfl
@[go_sem] theorem ZjU {fr d v} :Uz fr (some d) v=pt fr d v:=Zk rfl rfl
@[go_sem] theorem ZjT {fr v} :Uz fr none v=fr:=Zk rfl rfl
@[go_sem] theorem ZjE {x:Obj} {l} :oat (x::l) 0=x:=Zk rfl rfl
@[go_sem] theorem ZjD {x:Obj} {l n} :oat (x::l) (n+1)=oat l n:=Zk rfl rfl
@[go_sem] theorem ZjN {x v:Obj} {l} :F4 (x::l) 0 v=v::l:=Zk rfl rfl
@[go_sem] theorem ZjM {x v:Obj} {l n} :F4 (x::l) (n+1) v=x::F4 l n v:=Zk rfl rfl
@[go_sem] theorem ZlV {fr t} :evx fr (.tmp t)=gt fr t:=Zk rfl rfl
@[go_sem] theorem Zaf {fr g} :evx fr (.global g)=jQ g:=Zk rfl rfl
@[go_sem] theorem ZnB {fr t} :ev fr (.tmp t)=gt fr t:=Zk rfl rfl
@[go_sem] theorem ZlS {fr f} :ev fr (.func f)= .fn (.func f) [] []:=Zk rfl rfl
@[go_sem] theorem Znz {fr k n} :ev fr (.const (.int k n))= .p (.int k n):=Zk rfl rfl
@[go_sem] theorem ZlR {fr b} :ev fr (.const (.bool b))= .p (.bool b):=Zk rfl rfl
@[go_sem] theorem ZnA {fr s} :ev fr (.const (.string s))= .p (.str s.data.toList):=Zk rfl rfl
@[go_sem] theorem ZlU {fr} :ev fr (.const (.slice none 0 0))= .p (.list true []):=Zk rfl rfl
@[go_sem] theorem ZlT {fr} :ev fr (.const (.pointer none))= .p .nilp:=Zk rfl rfl
@[go_sem] theorem Zny {fr l} :ev fr (.const (.agg (List.toArray l)))=match cvs l with | some xs=> .p (.agg xs) | none=> .junk:=Zk rfl rfl
@[go_sem] theorem ZhY {fr d} {l:List (Option Nat)} :FJ fr (some d::l) 0=gt fr d:=by simp [FJ]
@[go_sem] theorem ZhX {fr o n} {l:List (Option Nat)} :FJ fr (o::l) (n+1)=FJ fr l n:=by simp [FJ]
section ops
variable {P : Program} {fr : List V} {H : List Obj} {ds : List (Option Nat)} {K : List V -> List Obj -> Prop} {r : List Oper} {d : Option Nat} {t : TypeId} {ps : String} {af : Array Edge} {g : Option (Nat × Bool)} {k : V -> List Obj -> Prop}
theorem OY {l fr' H'} (h:fr=fr') (h2:H=H'):YH P ds l fr H K=YH P ds l fr' H' K:=by rw [h,h2]
theorem Mz {o fr' H'} (h:fr=fr') (h2:H=H'):Zx P o fr H k=Zx P o fr' H' k:=by rw [h,h2]
@[go_sem ↓] theorem Zhn : YH P ds [] fr H K=K fr H:=Zk rfl rfl
@[go_sem] theorem Zeo {op} :YH P ds (⟨d,op,t,ps,af,none⟩::r) fr H K=Zx P ⟨d,op,t,ps,af,none⟩ fr H (Zu (fun x H'=>YH P ds r (Uz fr d x) H' K) ⟨⟩):=Zk rfl rfl
@[go_sem] theorem yE {op j b} :YH P ds (⟨d,op,t,ps,af,some (j,b)⟩::r) fr H K=XS (FJ fr ds j) b (Zu (Zx P ⟨d,op,t,ps,af,none⟩ fr H (Zu (fun x H'=>YH P ds r (Uz fr d x) H' K) ⟨⟩)) ⟨⟩) (Zu (YH P ds r (Uz fr d (.tup [])) H K) ⟨⟩):=by
 rfl
theorem XT {op:Op} (h:Y6 op=none) (h2:W5 P op fr H=none):Zx P ⟨d,op,t,ps,af,g⟩ fr H k=BE (Xb P op fr H) fun x=>k x H:=by
 simp only [Zx,h,Mh,h2]
 all_goals (cases Xb P op fr H<;>rfl)
theorem TF {op:Op} (h:Y6 op=none) (h2:Xb P op fr H=none):Zx P ⟨d,op,t,ps,af,g⟩ fr H k=Bf (W5 P op fr H) k:=by
 grind [Zx,Mh,Bf]
@[go_sem ↓] theorem yZ {x} :Zx P ⟨d,.move x,t,ps,af,g⟩ fr H k=k (ev fr x) H:=by rfl
@[go_sem ↓] theorem qD {x} :Zx P ⟨d,.assign x,t,ps,af,g⟩ fr H k=k (ev fr x) H:=by rfl
def vif (b:Bool) (x y:V):V:=if b then x else y
@[go_sem] theorem Zk2 {x y} :vif true x y=x:=Zk rfl rfl
@[go_sem] theorem Zgk {x y} :vif false x y=y:=Zk rfl rfl
@[go_sem] theorem Zk1 {b x y} :vif b (.p (.bool x)) (.p (.bool y))= .p (.bool (if b then x else y)):=by cases b<;>rfl
@[go_sem] theorem Zhs {b} :yP (.p (.bool b))=some b:=Zk rfl rfl
@[go_sem ↓] theorem zB {c x y} :Zx P ⟨d,.pick c x y,t,ps,af,g⟩ fr H k=BE ((yP (ev fr c)).map fun b=>vif b (ev fr x) (ev fr y)) (Zu (fun v=>k v H) ⟨⟩):=by
 rw [XT rfl rfl];simp only [Xb,Yc]
 cases yP (ev fr c)<;>rfl
@[go_sem ↓] theorem yY {u x} :Zx P ⟨d,.load u x,t,ps,af,g⟩ fr H k=BE (Jm P H u (ev fr x)) (Zu (fun v=>k v H) ⟨⟩):=by rw [XT rfl rfl];rfl
@[go_sem ↓] theorem fM {x} :Zx P ⟨d,.nilCheck x,t,ps,af,g⟩ fr H k=BE (if Ws H (ev fr x)||kB (ev fr x) then some (ev fr x) else none) (Zu (fun v=>k v H) ⟨⟩):=by rw [XT rfl rfl];rfl
@[go_sem ↓] theorem Zex {op u x y u2} :Zx P ⟨d,.binOp op u x y u2,t,ps,af,g⟩ fr H k=BE ((Yl P op u (ev fr x) (ev fr y)).map .p) (Zu (fun v=>k v H) ⟨⟩):=by rw [XT rfl rfl];rfl
@[go_sem ↓] theorem Zhw {op u x} :Zx P ⟨d,.unOp op u x,t,ps,af,g⟩ fr H k=BE ((aun op (ev fr x)).map .p) (Zu (fun v=>k v H) ⟨⟩):=by rw [XT rfl rfl];rfl
def lB (x y:Option PV):Option PV:=match x with | some z=>some z | none=>y
@[go_sem] theorem Zc1 {z y} :lB (some z) y=some z:=Zk rfl rfl
@[go_sem] theorem Zc0 {y} :lB none y=y:=Zk rfl rfl
@[go_sem ↓] theorem yX {s u x} :Zx P ⟨d,.convert s u x,t,ps,af,g⟩ fr H k=BE ((lB (Dk P H s u (ev fr x)) (Mn P s u (ev fr x))).map .p) (Zu (fun v=>k v H) ⟨⟩):=by
 rw [XT rfl rfl];simp only [Xb,Yc]
 cases Dk P H s u (ev fr x)<;>rfl
@[go_sem ↓] theorem fL {f cs es} :Zx P ⟨d,.makeFunc f (List.toArray cs) (List.toArray es),t,ps,af,g⟩ fr H k=k (.fn f (cs.map (ev fr)) (es.map (ev fr))) H:=by rfl
@[go_sem ↓] theorem wB {u x lo hi mx} :Zx P ⟨d,.slice u x lo hi mx,t,ps,af,g⟩ fr H k=BE (Vd P H u fr (ev fr x) lo hi mx) (Zu (fun v=>k v H) ⟨⟩):=by rw [XT rfl rfl];rfl
@[go_sem ↓] theorem dL {s x f} :Zx P ⟨d,.fieldAddr s x f,t,ps,af,g⟩ fr H k=BE (JG P H s f (ev fr x)) (Zu (fun v=>k v H) ⟨⟩):=by rw [XT rfl rfl];rfl
@[go_sem ↓] theorem dM {u x i} :Zx P ⟨d,.indexAddr u x i,t,ps,af,g⟩ fr H k=BE (QW P H u (evx fr x) (ev fr i)) (Zu (fun v=>k v H) ⟨⟩):=by rw [XT rfl rfl];rfl
@[go_sem ↓] theorem wA {u x i} :Zx P ⟨d,.index u x i,t,ps,af,g⟩ fr H k=BE (Mq P u (ev fr x) (ev fr i)) (Zu (fun v=>k v H) ⟨⟩):=by rw [XT rfl rfl];rfl
def axt (x:V) (i:Nat):Option V:=match x with | .tup vs=>vs[i]? | _=>none
@[go_sem] theorem Zlz {vs i} :axt (.tup vs) i=vs[i]? :=Zk rfl rfl
@[go_sem ↓] theorem oN {x i} :Zx P ⟨d,.extract x i,t,ps,af,g⟩ fr H k=BE (axt (ev fr x) i) (Zu (fun v=>k v H) ⟨⟩):=by
 rw [XT rfl rfl]
 rfl
@[go_sem ↓] theorem vZ {u l} :Zx P ⟨d,.build u (List.toArray l),t,ps,af,g⟩ fr H k=BE (E6 P H u (l.map fun x=>(x.1,ev fr x.2))) (Zu (fun v=>k v H) ⟨⟩):=by rw [XT rfl rfl];rfl
@[go_sem ↓] theorem Zez {x u} :Zx P ⟨d,.call ⟨.builtin .len,#[x],#[u]⟩,t,ps,af,g⟩ fr H k=BE ((eZ P H u (ev fr x)).map .p) (Zu (fun v=>k v H) ⟨⟩):=by rw [XT rfl rfl];rfl
@[go_sem ↓] theorem ZeA {x y us} :Zx P ⟨d,.call ⟨.builtin .max,#[x,y],us⟩,t,ps,af,g⟩ fr H k=BE ((IF false [ev fr x,ev fr y]).map .p) (Zu (fun v=>k v H) ⟨⟩):=by
 rw [XT rfl rfl];rfl
@[go_sem ↓] theorem vY {u} :Zx P ⟨d,.alloc u,t,ps,af,g⟩ fr H k=Bf ((Z9 P u).map fun zs=>(.ptr H.length 0,H++ [.cells (zs.map .p)])) (Zu k ⟨⟩):=by rfl
@[go_sem ↓] theorem Zey {u x} :Zx P ⟨d,.box u x,t,ps,af,g⟩ fr H k=Bf ((vc H (ev fr x)).map fun cs=>(.ptr H.length 0,H++ [.cells cs])) (Zu k ⟨⟩):=by rfl
def zD (H:List Obj) (n:Option Nat) (a:V) (cs:Option (List V)):Option (List Obj):=n.bind fun n=>cs.bind fun cs=>Bp H n a cs
@[go_sem] theorem ZeC {n a cs} :zD H (some n) a (some cs)=Bp H n a cs:=Zk rfl rfl
@[go_sem ↓] theorem wC {u x y} :Zx P ⟨d,.store u x y,t,ps,af,g⟩ fr H k=hst (zD H (YZ P u) (ev fr x) (vc H (ev fr y))) (Zu (k .junk) ⟨⟩):=by
 rw [TF rfl rfl];simp only [W5,zD]
 cases YZ P u<;>cases vc H (ev fr y)<;>simp [hst,Bf,Zu]
 grind
@[go_sem ↓] theorem TE {u n l} :Zx P ⟨d,.buildSlice u n (List.toArray l),t,ps,af,g⟩ fr H k=Bf (W5 P (.buildSlice u n (List.toArray l)) fr H) (Zu k ⟨⟩):=by rfl
@[go_sem ↓] theorem oO {u} :Zx P ⟨d,.makeMap u none,t,ps,af,g⟩ fr H k=k (.mp H.length) (H++ [.map []]):=by rfl
@[go_sem ↓] theorem qE {u x y ok} :Zx P ⟨d,.lookup u x y ok,t,ps,af,g⟩ fr H k=Bf (B1 P H u (ev fr x) (ev fr y) ok) (Zu k ⟨⟩):=by rfl
@[go_sem ↓] theorem zA {u x y z} :Zx P ⟨d,.mapUpdate u x y z,t,ps,af,g⟩ fr H k=Bf (D4 P H u (ev fr x) (ev fr y) (ev fr z)) (Zu k ⟨⟩):=by rfl
@[go_sem ↓] theorem dN {u x y} :Zx P ⟨d,.makeSlice u x y,t,ps,af,g⟩ fr H k=Bf (W5 P (.makeSlice u x y) fr H) (Zu k ⟨⟩):=by rfl
@[go_sem ↓] theorem qC {x y u u2} :Zx P ⟨d,.call ⟨.builtin .append,#[x,y],#[u,u2]⟩,t,ps,af,g⟩ fr H k=Bf (WR P H u u2 (ev fr x) (ev fr y)) (Zu k ⟨⟩):=by rfl
@[go_sem ↓] theorem yW {f azs ts} :Zx P ⟨d,.call ⟨.value f,List.toArray azs,ts⟩,t,ps,af,g⟩ fr H k=D3 P (ev fr f) (azs.map (ev fr)) H (Zu k ⟨⟩):=Zk rfl rfl
@[go_sem ↓] theorem Zhc {f fs cs azs} :D3 P (.fn (.func f) fs cs) azs H k=ACalls P f (fs++azs++cs) H k:=Zk rfl rfl
@[go_sem ↓] theorem Zd0 {f azs} :D3 P (.p (.fn f)) azs H k=ACalls P f azs H k:=Zk rfl rfl
theorem Ml {f f' azs as'} (h:f=f') (h2:azs=as'):D3 P f azs H k=D3 P f' as' H k:=by rw [h,h2]
theorem Iw {f azs as' H'} (h2:azs=as') (h3:H=H'):ACalls P f azs H k=ACalls P f as' H' k:=by rw [h2,h3]
theorem Mm {x x' A B} (h:x=x'):UN x A B=UN x' A B:=by rw [h]
theorem IC {x x' b A B} (h:x=x'):XS x b A B=XS x' b A B:=by rw [h]
@[go_sem ↓, go_sem] theorem xT {A:Prop} {t B'} :UN (.p (.bool true)) (Zu A t) B'=A:=by simp [UN,Zu]
@[go_sem ↓, go_sem] theorem vM {B:Prop} {t B'} :UN (.p (.bool false)) B' (Zu B t)=B:=by simp [UN,Zu]
@[go_sem ↓, go_sem] theorem Zea {A:Prop} {t B} :XS (.p (.bool true)) true (Zu A t) B=A:=by simp [XS,Zu]
@[go_sem ↓, go_sem] theorem Zd9 {B:Prop} {t A} :XS (.p (.bool true)) false A (Zu B t)=B:=by simp [XS,Zu]
@[go_sem ↓, go_sem] theorem Zd8 {B:Prop} {t A} :XS (.p (.bool false)) true A (Zu B t)=B:=by simp [XS,Zu]
@[go_sem ↓, go_sem] theorem Zd7 {A:Prop} {t B} :XS (.p (.bool false)) false (Zu A t) B=A:=by simp [XS,Zu]
@[go_sem ↓, go_sem] theorem vO {b} {B:Prop} {t A} :XS (.tup []) b A (Zu B t)=B:=by rfl
theorem UV {c:Bool} {A B:Prop} {t t'} (h1:c=true->A) (h2:c=false->B):UN (.p (.bool c)) (Zu A t) (Zu B t'):=⟨h1,h2⟩
theorem Vv {c:Bool} {A B:Prop} {t t'} (h1:c=true->A) (h2:c=false->B):XS (.p (.bool c)) true (Zu A t) (Zu B t'):=⟨h1,fun h=>h2 (by simpa using h)⟩
theorem Uf {c:Bool} {A B:Prop} {t t'} (h1:c=true->B) (h2:c=false->A):XS (.p (.bool c)) false (Zu A t) (Zu B t'):=⟨h2,fun h=>h1 (by simpa using h)⟩
theorem Zc {P Q:Prop} (h:Q) (e:Q->P:=by intro h;simp (disch:=omega) only [go_sem,seval];exact h):P:=e h
class Dc (c:Bool) (p q:outParam Prop):Prop where
 t:c=true->p
 f:c=false->q
instance dcD {p : Prop} [Decidable p] : Dc (decide p) p (¬p) := ⟨Ay, of_decide_eq_false⟩
instance (priority := low) dcB {c : Bool} : Dc c (c = true) (c = false) := ⟨id, id⟩
theorem cD {c:Bool} {A B p q:Prop} {t t'} [d:Dc c p q] (h1:p->A) (h2:q->B):UN (.p (.bool c)) (Zu A t) (Zu B t'):=UV (fun h=>h1 (d.t h)) (fun h=>h2 (d.f h))
theorem gT {c:Bool} {A B p q:Prop} {t t'} [d:Dc c p q] (h1:p->A) (h2:q->B):XS (.p (.bool c)) true (Zu A t) (Zu B t'):=Vv (fun h=>h1 (d.t h)) (fun h=>h2 (d.f h))
theorem gF {c:Bool} {A B p q:Prop} {t t'} [d:Dc c p q] (h1:p->B) (h2:q->A):XS (.p (.bool c)) false (Zu A t) (Zu B t'):=Uf (fun h=>h1 (d.t h)) (fun h=>h2 (d.f h))
@[go_sem] theorem Zmn {p:Prop} [Decidable p]:(!decide p)=decide (¬p):=Zb
end ops
attribute [congr] OY Mz Ml Iw Mm IC
section vals
variable {P : Program} {H : List Obj} {k : IntKind} {t u : TypeId}
@[go_sem] theorem Zg1 {a b} :Yl P .add t (.p (.int k a)) (.p (.int k b))=some (.int k (k.wrap (a+b))):=by simp [Yl,Q6]
@[go_sem] theorem Zhb {a b} :Yl P .sub t (.p (.int k a)) (.p (.int k b))=some (.int k (k.wrap (a-b))):=by simp [Yl,Q6]
@[go_sem] theorem eE {a b} :Yl P .mul t (.p (.int k a)) (.p (.int k b))=some (.int k (k.wrap (a*b))):=by simp [Yl,Q6]
@[go_sem] theorem eJ {a b} (h:b≠0):Yl P .quo t (.p (.int k a)) (.p (.int k b))=some (.int k (k.wrap (a.tdiv b))):=by simp [Yl,Q6,h]
@[go_sem] theorem Zg9 {a b} (h:b≠0):Yl P .rem t (.p (.int k a)) (.p (.int k b))=some (.int k (a.tmod b)):=by simp [Yl,Q6,h]
@[go_sem] theorem eD {a b} :Yl P .and t (.p (.int k a)) (.p (.int k b))=some (.int k (k.wrap ((BitVec.ofInt k.bits a&&&BitVec.ofInt k.bits b).toNat:Int))):=by simp [Yl,Q6]
@[go_sem] theorem Rw {a b} :Yl P .or t (.p (.int k a)) (.p (.int k b))=some (.int k (k.wrap ((BitVec.ofInt k.bits a|||BitVec.ofInt k.bits b).toNat:Int))):=by simp [Yl,Q6]
@[go_sem] theorem vK {a b} :Yl P .andNot t (.p (.int k a)) (.p (.int k b))=some (.int k (k.wrap ((BitVec.ofInt k.bits a&&& ~~~(BitVec.ofInt k.bits b)).toNat:Int))):=by simp [Yl,Q6]
@[go_sem] theorem Zg3 {a b} :Yl P .eql t (.p (.int k a)) (.p (.int k b))=some (.bool (decide (a=b))):=by simp [Yl,Q6]
@[go_sem] theorem Zg8 {a b} :Yl P .neq t (.p (.int k a)) (.p (.int k b))=some (.bool (decide (¬a=b))):=by simp [Yl,Q6]
@[go_sem] theorem Zg7 {a b} :Yl P .lss t (.p (.int k a)) (.p (.int k b))=some (.bool (decide (a<b))):=by simp [Yl,Q6]
@[go_sem] theorem Zg6 {a b} :Yl P .leq t (.p (.int k a)) (.p (.int k b))=some (.bool (decide (a<=b))):=by simp [Yl,Q6]
@[go_sem] theorem Zg5 {a b} :Yl P .gtr t (.p (.int k a)) (.p (.int k b))=some (.bool (decide (b<a))):=by simp [Yl,Q6]
@[go_sem] theorem Zg4 {a b} :Yl P .geq t (.p (.int k a)) (.p (.int k b))=some (.bool (decide (b<=a))):=by simp [Yl,Q6]
@[go_sem] theorem eK {a b k'} (h:0<=b):Yl P .shl t (.p (.int k a)) (.p (.int k' b))=some (.int k (k.wrap (a*2^(min b.toNat k.bits)))):=by grind [Yl,Q6]
@[go_sem] theorem eL {a b k'} (h:0<=b):Yl P .shr t (.p (.int k a)) (.p (.int k' b))=some (.int k (a.fdiv (2^(min b.toNat k.bits)))):=by grind [Yl,Q6]
@[go_sem] theorem Zha {op a b} :Yl P op t (.p (.str a)) (.p (.str b))=LY op a b:=Zk rfl rfl
@[go_sem] theorem Zj0 {a b} :LY .eql a b=some (.bool (decide (a=b))):=Zk rfl rfl
@[go_sem] theorem Zj1 {a b} :LY .neq a b=some (.bool (decide (¬a=b))):=by simp [LY]
@[go_sem] theorem nA {a b} (h:a.length+b.length<=9223372036854775807):LY .add a b=some (.str (a++b)):=by simp [LY,h]
def Zq3 (op:BinOp) (u:Option TypeDesc) (a b:Bool):Option PV:=match op,u with
  | .eql,some .bool=>some (.bool (a==b))
  | .neq,some .bool=>some (.bool (!(a==b)))
  | _,_=>none
end vals
attribute [irreducible] BE Bf hst bst
end Go.AM
namespace Go.AM
open Go.RowKit
section vals
variable {P : Program} {H : List Obj} {k : IntKind} {t u : TypeId}
def Zah (g:Bool) (op:BinOp) (r:Option Bool):Option PV:=if g then none else match op with
 | .eql=>r.map .bool
 | .neq=>r.map fun r=> .bool (!r)
 | _=>none
@[go_sem] theorem Zg2 {op a b} :Yl P op t (.p (.agg a)) (.p (.agg b))=Zah (P.eqGuardType P.depth t) op (Vu P 9 t (.agg a) (.agg b)):=Zk rfl rfl
@[go_sem] theorem ZhZ {b} :Zah false .eql (some b)=some (.bool b):=Zk rfl rfl
@[go_sem] theorem Zh0 {b} :Zah false .neq (some b)=some (.bool (!b)):=Zk rfl rfl
def GT (P:Program) (d:Nat) (t:TypeId) (D:Option TypeDesc) (x y:PV):Option Bool:=match D,x,y with
  | some .bool,.bool a,.bool b=>some (a==b)
  | some (.int _),.int k a,.int k' b=>if k=k' then some (decide (a=b)) else none
  | some .string,.str a,.str b=>some (decide (a=b))
  | some (.struct fs),.agg a,.agg b=>if P.stoodInHeld t then none else BV (Vu P d) P fs.toList a b
  | some (.array n e),.agg a,.agg b=>match YZ P e with | some m=>Tn (Vu P d e) P e m n 0 a b | none=>none
  | _,_,_=>none
@[go_sem] theorem Zd4 {d x y} :Vu P (d+1) t x y=GT P d t (P.underlying t) x y:=Zk rfl rfl
@[go_sem] theorem Zd3 {d a b} :GT P d t (some .bool) (.bool a) (.bool b)=some (a==b):=Zk rfl rfl
@[go_sem] theorem Zhe {d k0 a b} :GT P d t (some (.int k0)) (.int k a) (.int k b)=some (decide (a=b)):=by simp [GT]
theorem QD {d fs a b} (h:P.stoodInHeld t=false):GT P d t (some (.struct fs)) (.agg a) (.agg b)=BV (Vu P d) P fs.toList a b:=by simp [GT,h]
def Et (x y:Option Bool):Option Bool:=x.bind fun p=>y.map fun q=>p&&q
@[go_sem] theorem Zfb {p q} :Et (some p) (some q)=some (p&&q):=Zk rfl rfl
def dP (f:PV->PV->Option Bool) (x y:Option PV):Option Bool:=x.bind fun x=>y.bind fun y=>f x y
@[go_sem] theorem ZhP {f x y} :dP f (some x) (some y)=f x y:=Zk rfl rfl
@[go_sem] theorem BW {f a b} :BV f P [] a b=some true:=Zk rfl rfl
@[go_sem] theorem Ac {f fi r a b} : BV f P (fi :: r) a b = if fi.name = "_" then BV f P r a b else Et (dP (f fi.type) (apart P fi.type a fi.offset) (apart P fi.type b fi.offset)) (BV f P r a b) := by
 simp only [BV]
 split
 ·rfl
 ·cases apart P fi.type a fi.offset<;>cases apart P fi.type b fi.offset<;>simp [dP,Et]
  rename_i x y
  cases f fi.type x y<;>cases BV f P r a b<;>rfl
def Zhp (g:Option Bool) (s:Option Nat) (cs:List PV) (off:Nat):Option PV:=match g,s with
 | some true,some n=>if off+n<=cs.length then some (.agg ((cs.drop off).take n)) else none
 | some false,_=>cs[off]?
 | _,_=>none
@[go_sem] theorem Zho {cs off} :apart P t cs off=Zhp (XM P t) (YZ P t) cs off:=Zk rfl rfl
@[go_sem] theorem Zhq {s cs off} :Zhp (some false) s cs off=cs[off]? :=Zk rfl rfl
def OV (g:Option Bool) (s:Option Nat) (H:List Obj) (x:V):Option V:=match g,s with
 | some true,some n=>(UB H x n).map mkA
 | some false,_=>match UB H x 1 with
  | some (c::_)=>some c
  | _=>none
 | _,_=>none
def hdO (x:Option (List V)):Option V:=match x with | some (c::_)=>some c | _=>none
@[go_sem] theorem Zh4 {c l} :hdO (some (c::l))=some c:=Zk rfl rfl
@[go_sem] theorem Zhj {x} :Jm P H t x=OV (XM P t) (YZ P t) H x:=Zk rfl rfl
@[go_sem] theorem yD {s x} :OV (some false) s H x=hdO (UB H x 1):=by rfl
@[go_sem] theorem yC {n x} :OV (some true) (some n) H x=(UB H x n).map mkA:=Zk rfl rfl
@[go_sem] theorem Zd2 {x j n} :UB H (.lp x j) n=if j+n<=x.cells.length then some (((x.cells.drop j).take n).map .p) else none:=Zk rfl rfl
def lX (ob:Obj) (off n:Nat):Option (List V):=match ob with | .cells cs=>if off+n<=cs.length then some ((cs.drop off).take n) else none | _=>none
@[go_sem] theorem xS {o off n} :UB H (.ptr o off) n=lX (oat H o) off n:=Zk rfl rfl
@[go_sem] theorem tK {cs off n} :lX (.cells cs) off n=if off+n<=cs.length then some ((cs.drop off).take n) else none:=Zk rfl rfl
def iH (ob:Obj) (i j tot n:Nat):Option (List V):=match ob with
 | .elems _ xs=>if xs.length=tot/\i<xs.length/\j+n<=(Ks xs i).cells.length then some ((((Ks xs i).cells.drop j).take n).map .p) else none
 | _=>none
@[go_sem] theorem Zd1 {o i j tot n} :UB H (.ep o i j tot) n=iH (oat H o) i j tot n:=Zk rfl rfl
@[go_sem] theorem rE {S xs i j tot n} :iH (.elems S xs) i j tot n=if xs.length=tot/\i<xs.length/\j+n<=(Ks xs i).cells.length then some ((((Ks xs i).cells.drop j).take n).map .p) else none:=Zk rfl rfl
@[go_sem] theorem ZeK {cs} :(PV.agg cs).cells=cs:=Zk rfl rfl
@[go_sem] theorem ZeM {n} :(PV.int k n).cells= [.int k n]:=Zk rfl rfl
@[go_sem] theorem zP {b} :(PV.bool b).cells= [.bool b]:=Zk rfl rfl
@[go_sem] theorem ZeN {s} :(PV.str s).cells= [.str s]:=Zk rfl rfl
@[go_sem] theorem zQ {c xs} :(PV.list c xs).cells= [.list c xs]:=Zk rfl rfl
@[go_sem] theorem Zmp {n} :(PV.int k n).one=true:=Zk rfl rfl
@[go_sem] theorem ZjK {b} :(PV.bool b).one=true:=Zk rfl rfl
@[go_sem] theorem Zmq {s} :(PV.str s).one=true:=Zk rfl rfl
@[go_sem] theorem ZjL {c xs} :(PV.list c xs).one=true:=Zk rfl rfl
@[go_sem] theorem Zn8 {cs} :mkA cs=match QB cs with | some ps=> .p (.agg ps) | none=> .agg cs:=Zk rfl rfl
@[go_sem] theorem Zhi : QB []=some []:=Zk rfl rfl
@[go_sem] theorem Zeg {x r} :QB (.p x::r)=(QB r).map (x:: ·):=by rfl
def Ex (n:Option Nat) (a:Bool) (x:V):Option V:=match n with | some n=>if a then some (B2 n x) else none | none=>none
@[go_sem] theorem Zd5 {s f x} :JG P H s f x=Ex (ZP P s f) (Ws H x) x:=Zk rfl rfl
@[go_sem] theorem oZ {n x} :Ex (some n) true x=some (B2 n x):=Zk rfl rfl
@[go_sem] theorem Zhm {n x j} :B2 n (.lp x j)= .lp x (j+n):=Zk rfl rfl
@[go_sem] theorem Zel {n o off} :B2 n (.ptr o off)= .ptr o (off+n):=Zk rfl rfl
@[go_sem] theorem Zhl {n o i j tot} :B2 n (.ep o i j tot)= .ep o i (j+n) tot:=Zk rfl rfl
def Sd (ob:Obj):Bool:=match ob with | .cells _=>true | _=>false
@[go_sem] theorem oS {cs} :Sd (.cells cs)=true:=Zk rfl rfl
def Se (ob:Obj) (tot:Nat):Bool:=match ob with | .elems _ xs=>decide (xs.length=tot) | _=>false
@[go_sem] theorem oT {S xs tot} :Se (.elems S xs) tot=decide (xs.length=tot):=Zk rfl rfl
def Si (ob:Obj) (tot:Nat):Bool:=match ob with | .elems _ xs=>decide (xs.length=tot) | .cells _=>true | _=>false
@[go_sem] theorem wU {S xs tot} :Si (.elems S xs) tot=decide (xs.length=tot):=Zk rfl rfl
@[go_sem] theorem wT {cs tot} :Si (.cells cs) tot=true:=Zk rfl rfl
@[go_sem] theorem Zhh {x j} :Ws H (.lp x j)=true:=Zk rfl rfl
@[go_sem] theorem yA {o off} :Ws H (.ptr o off)=Sd (oat H o):=Zk rfl rfl
@[go_sem] theorem Zhg {o i j tot} :Ws H (.ep o i j tot)=Se (oat H o) tot:=Zk rfl rfl
def UX (e:Option (Option Nat×Nat)) (H:List Obj) (x i:V):Option V:=match e,i with
 | some (none,S),.p (.int _ n)=>match x with
  | .p (.list _ xs)=>if 0<=n/\n<xs.length then (if (Ks xs n.toNat).cells.length=S then some (.lp (Ks xs n.toNat) 0) else none) else none
  | .sl o off len tot=>match oat H o with
   | .elems S' xs=>if xs.length=tot/\S'=S then (if 0<=n/\n<len then some (.ep o (off+n.toNat) 0 tot) else none) else none
   | .cells _=>if S=1/\off=0/\len=tot/\0<=n/\n<len then some (.ptr o n.toNat) else none
   | _=>none
  | _=>none
 | some (some k,S),.p (.int _ n)=>if 0<=n/\n<k then (if Ws H x then some (B2 (n.toNat*S) x) else none) else none
 | _,_=>none
@[go_sem] theorem Zec {x i} :QW P H t x i=UX (Y3 P t) H x i:=Zk rfl rfl
theorem ID {S c xs n} (h0:0<=n) (h1:n<(List.length xs:Int)):UX (some (none,S)) H (.p (.list c xs)) (.p (.int k n))=if (Ks xs n.toNat).cells.length=S then some (.lp (Ks xs n.toNat) 0) else none:=by
 simp_all [UX]
def nth {α:Type} [Inhabited α] (l:List α) (i:Nat):α:=l.getD i default
theorem Vz {α:Type} [Inhabited α] {f:α->PV} {l:List α} {i:Nat} (h:i<l.length):Ks (l.map f) i=f (nth l i):=by
 simp [Ks,nth,h]
theorem Zh {α:Type} [Inhabited α] {l:List α} {i:Nat} (h:i<l.length):nth l i=l[i]:=by simp [nth,h]
@[go_sem] theorem vQ {α:Type} [Inhabited α] {f:α->PV} {l:List α} {S c n} (h0:0<=n) (h1:n<(l.length:Int)) :
  UX (some (none,S)) H (.p (.list c (l.map f))) (.p (.int k n))=if (f (nth l n.toNat)).cells.length=S then some (.lp (f (nth l n.toNat)) 0) else none:=by
 grind [ID,Vz]
def GA (ob:Obj) (S o off len tot:Nat) (n:Int):Option V:=match ob with
 | .elems S' xs=>if xs.length=tot/\S'=S then (if 0<=n/\n<len then some (.ep o (off+n.toNat) 0 tot) else none) else none
 | .cells _=>if S=1/\off=0/\len=tot/\0<=n/\n<len then some (.ptr o n.toNat) else none
 | _=>none
@[go_sem] theorem xW {S o off len tot n} :UX (some (none,S)) H (.sl o off len tot) (.p (.int k n))=GA (oat H o) S o off len tot n:=Zk rfl rfl
@[go_sem] theorem Zfi {S xs o off} {len tot:Nat} {n:Int} (h0:0<=n) (h1:n<(len:Int)) (ht:xs.length=tot):GA (.elems S xs) S o off len tot n=some (.ep o (off+n.toNat) 0 tot):=by
 grind [GA]
@[go_sem] theorem uH {cs o} {len:Nat} {n:Int} (h0:0<=n) (h1:n<(len:Int)):GA (.cells cs) 1 o 0 len len n=some (.ptr o n.toNat):=by
 grind [GA]
@[go_sem] theorem vP {n} {m S:Nat} {x} (h0:0<=n) (h1:n<(m:Int)):UX (some (some m,S)) H x (.p (.int k n))=Ex (some (n.toNat*S)) (Ws H x) x:=by
 simp_all [UX,Ex]
def Rx (H:List Obj) (D:Option TypeDesc) (x:V):Option PV:=match D,x with
 | some (.slice _),.p (.list _ xs)=>some (.int .i64 xs.length)
 | some (.slice _),.sl o _ len tot=>match oat H o with
  | .elems _ xs=>if xs.length=tot then some (.int .i64 len) else none
  | _=>none
 | some .string,.p (.str s)=>some (.int .i64 s.length)
 | some (.array n _),_=>some (.int .i64 n)
 | _,_=>none
@[go_sem] theorem Zlq {x} :eZ P H t x=Rx H (P.underlying t) x:=Zk rfl rfl
@[go_sem] theorem xX {e c xs} :Rx H (some (.slice e)) (.p (.list c xs))=some (.int .i64 (List.length xs)):=Zk rfl rfl
def Zj4 (ob:Obj) (len tot:Nat):Option PV:=match ob with | .elems _ xs=>if xs.length=tot then some (.int .i64 len) else none | _=>none
@[go_sem] theorem Zhf {e o off len tot} :Rx H (some (.slice e)) (.sl o off len tot)=Zj4 (oat H o) len tot:=Zk rfl rfl
@[go_sem] theorem Zds {S xs len tot} :Zj4 (.elems S xs) len tot=if xs.length=tot then some (.int .i64 len) else none:=Zk rfl rfl
@[go_sem] theorem Zef {s} :Rx H (some .string) (.p (.str s))=some (.int .i64 (List.length s)):=Zk rfl rfl
@[go_sem] theorem Zly {b} :aun .not (.p (.bool b))=some (.bool (!b)):=Zk rfl rfl
@[go_sem] theorem Zlx {n} :aun .neg (.p (.int k n))=some (.int k (k.wrap (0-n))):=Zk rfl rfl
def eQ (D E:Option TypeDesc) (x:V):Option PV:=match D,E,x with
 | some _,some (.int k),.p (.int _ n)=>some (.int k (k.wrap n))
 | some (.int _),some .string,.p (.int _ n)=>if 0<=n/\n<128 then some (.str [UInt8.ofNat n.toNat]) else none
 | some .string,some .string,.p (.str b)=>some (.str b)
 | _,_,_=>none
@[go_sem] theorem Zhd {s x} :Mn P s t x=eQ (P.underlying s) (P.underlying t) x:=Zk rfl rfl
@[go_sem] theorem xU {D k' n} :eQ (some D) (some (.int k)) (.p (.int k' n))=some (.int k (k.wrap n)):=by rfl
def IB (E:Option TypeDesc) (H:List Obj) (x:V):Option PV:=match E,x with
  | some (.int .u8),.p (.list _ xs)=>(Y5 xs).map .str
  | some (.int .u8),.sl o off len tot=>match oat H o with
   | .elems _ xs=>if xs.length=tot/\off+len<=tot then (Y5 ((xs.take (off+len)).drop off)).map .str else none
   | _=>none
  | _,_=>none
def IA (P:Program) (H:List Obj) (D E:Option TypeDesc) (x:V):Option PV:=match D,E with
 | some (.slice e),some .string=>IB (P.underlying e) H x
 | _,_=>none
@[go_sem] theorem ZdZ {s x} :Dk P H s t x=IA P H (P.underlying s) (P.underlying t) x:=Zk rfl rfl
@[go_sem] theorem vL {E x} :IA P H (some (.int k)) E x=none:=Zk rfl rfl
@[go_sem] theorem oJ {e x} :IA P H (some (.slice e)) (some .string) x=IB (P.underlying e) H x:=Zk rfl rfl
def nB (ob:Obj) (off len tot:Nat):Option PV:=match ob with | .elems _ xs=>if xs.length=tot/\off+len<=tot then (Y5 ((xs.take (off+len)).drop off)).map .str else none | _=>none
@[go_sem] theorem xR {o off len tot} :IB (some (.int .u8)) H (.sl o off len tot)=nB (oat H o) off len tot:=Zk rfl rfl
@[go_sem] theorem uC {S xs off len tot} :nB (.elems S xs) off len tot=if xs.length=tot/\off+len<=tot then (Y5 ((xs.take (off+len)).drop off)).map .str else none:=Zk rfl rfl
@[go_sem] theorem wH : Y5 []=some []:=Zk rfl rfl
@[go_sem] theorem qN {n r} :Y5 (.int .u8 n::r)=(Y5 r).map (UInt8.ofNat n.toNat:: ·):=by rfl
@[go_sem] theorem ZmT {a b:Int} (h:0<=a):a.tdiv b=a / b:=Int.tdiv_eq_ediv_of_nonneg h
@[go_sem] theorem Zm6 {a b:Int} (h:0<=a):a.tmod b=a%b:=Int.tmod_eq_emod_of_nonneg h
@[go_sem] theorem ZpH {cs} :vc H (.p (.agg cs))=if cs.all (·.one)=true then some (cs.map .p) else none:=by rfl
@[go_sem] theorem Zm7 {cs} :vc H (.agg cs)=if cs.all (V.one H)=true then some cs else none:=by rfl
@[go_sem] theorem ZpI {n} :vc H (.p (.int k n))=some [.p (.int k n)]:=Zk rfl rfl
@[go_sem] theorem Zm8 {n} :vc H (.p (.bool n))=some [.p (.bool n)]:=Zk rfl rfl
@[go_sem] theorem ZpJ {n} :vc H (.p (.str n))=some [.p (.str n)]:=Zk rfl rfl
@[go_sem] theorem Zm9 {c xs} :vc H (.p (.list c xs))=some [.p (.list c xs)]:=Zk rfl rfl
@[go_sem] theorem Zq1 {o off len tot} :vc H (.sl o off len tot)=if Si (oat H o) tot=true then some [.sl o off len tot] else none:=Zk rfl rfl
@[go_sem] theorem ZpK {x} :V.one H (.p x)=x.one:=Zk rfl rfl
@[go_sem] theorem Znc {o off len tot} :V.one H (.sl o off len tot)=Si (oat H o) tot:=Zk rfl rfl
@[go_sem] theorem Znb {o} :V.one H (.mp o)=Sf (oat H o):=Zk rfl rfl
@[go_sem] theorem Zq0 {o} :vc H (.mp o)=if Sf (oat H o)=true then some [.mp o] else none:=Zk rfl rfl
@[go_sem] theorem Ze1 {es} :Sf (.map es)=true:=Zk rfl rfl
@[go_sem] theorem L5 {α:Type} {n} {cs:List α} :Jj ([]:List α) n cs= []:=by rfl
@[go_sem] theorem Zj7 {α:Type} {x c:α} {l cs} :Jj (x::l) 0 (c::cs)=c::Jj l 0 cs:=by simp [Jj]
@[go_sem] theorem Zfj {α:Type} {x:α} {l} :Jj (x::l) 0 []=x::l:=by simp [Jj]
@[go_sem] theorem Zj6 {α:Type} {x:α} {l cs n} :Jj (x::l) (n+1) cs=x::Jj l n cs:=by simp [Jj]
def mG (H:List Obj) (o:Nat) (ob:Obj) (off n:Nat) (cs:List V):Option (List Obj):=match ob with
 | .cells old=>if off+n<=old.length then some (F4 H o (.cells (Jj old off cs))) else none
 | _=>none
@[go_sem] theorem zC {n o off cs} :Bp H n (.ptr o off) cs=if cs.length=n then mG H o (oat H o) off n cs else none:=Zk rfl rfl
@[go_sem] theorem tO {o old off n cs} :mG H o (.cells old) off n cs=if off+n<=old.length then some (F4 H o (.cells (Jj old off cs))) else none:=Zk rfl rfl
def Pm (H:List Obj) (o:Nat) (ob:Obj) (i j tot n:Nat) (ps:Option (List PV)):Option (List Obj):=match ob,ps with
 | .elems S xs,some ps=>if xs.length=tot/\i<xs.length/\j+n<=(Ks xs i).cells.length/\ps.all (·.one)=true/\(Ks xs i).cells.all (·.one)=true then
   some (F4 H o (.elems S (xs.set i (kO (Ks xs i) (Jj (Ks xs i).cells j ps))))) else none
 | _,_=>none
@[go_sem] theorem ZeB {n o i j tot cs} :Bp H n (.ep o i j tot) cs=if cs.length=n then Pm H o (oat H o) i j tot n (QB cs) else none:=Zk rfl rfl
@[go_sem] theorem Zae {α:Type} [Inhabited α] {f:α->PV} {l:List α} {o S i j tot n ps} (ht:l.length=tot) (hi:i<l.length):Pm H o (.elems S (l.map f)) i j tot n (some ps) =
  if j+n<=(f (nth l i)).cells.length/\ps.all (·.one)=true/\(f (nth l i)).cells.all (·.one)=true then
   some (F4 H o (.elems S ((l.map f).set i (kO (f (nth l i)) (Jj (f (nth l i)).cells j ps))))) else none:=by
 simp_all [Pm,Vz]
@[go_sem] theorem Zml {a cs} :kO (.agg a) cs= .agg cs:=Zk rfl rfl
@[go_sem] theorem Zmm {n c l} :kO (.int k n) (c::l)=c:=Zk rfl rfl
@[go_sem] theorem Zjy {n c l} :kO (.bool n) (c::l)=c:=Zk rfl rfl
@[go_sem] theorem ZdY {l} :E6 P H t l=match Z9 P t,Bj P t with
 | some zs,some pl=>(Kw H pl (zs.map .p) l).map mkA
 | _,_=>none:=Zk rfl rfl
@[go_sem] theorem Zd6 {pl cs} :Kw H pl cs []=some cs:=by simp [Kw]
def eV (H:List Obj) (pl:Nat->Option (Nat×Nat)) (cs:List V) (r:List (Nat×V)) (q:Option (Nat×Nat)) (vs:Option (List V)):Option (List V):=match q,vs with
 | some (off,sz),some vs=>if vs.length=sz/\off+sz<=cs.length then Kw H pl (Jj cs off vs) r else none
 | _,_=>none
@[go_sem] theorem xV {pl cs i v r} :Kw H pl cs ((i,v)::r)=eV H pl cs r (pl i) (vc H v):=Zk rfl rfl
@[go_sem] theorem vN {pl cs off sz vs r} :eV H pl cs r (some (off,sz)) (some vs)=if vs.length=sz/\off+sz<=cs.length then Kw H pl (Jj cs off vs) r else none:=Zk rfl rfl
@[go_sem] theorem Zoe {l i} :Bh l i=l[i]? :=Zk rfl rfl
@[go_sem] theorem Zod {n i} :plA n i=some (i*n,n):=Zk rfl rfl
end vals
end Go.AM
namespace Go.AM
open Go.RowKit
section
variable {P : Program} {H : List Obj} {k : IntKind} {t u : TypeId} {fr : List V}
def fA (S:Option Nat) (H:List Obj) (n:Nat) (l:List (Nat×V)):Option (V×List Obj):=match S with
 | some S=>if n=l.length/\n*S<=16777216/\0<S then (Ju H S 0 l).map fun xs=>(.sl H.length 0 n n,H++ [.elems S xs]) else none
 | none=>none
@[go_sem] theorem Zhk {n l} :W5 P (.buildSlice t n (List.toArray l)) fr H=fA (Um P t) H n (l.map fun x=>(x.1,ev fr x.2)):=by
 grind [W5,Um,fA,OU]
@[go_sem] theorem xY {S n l} :fA (some S) H n l=if n=l.length/\n*S<=16777216/\0<S then (Ju H S 0 l).map fun xs=>(.sl H.length 0 n n,H++ [.elems S xs]) else none:=Zk rfl rfl
@[go_sem] theorem Zju {S n} :Ju H S n []=some []:=by simp [Ju]
@[go_sem] theorem Ze6 {S n i x r} :Ju H S n ((i,.p x)::r)=if i=n then if x.cells.length=S/\x.cells.all (·.one)=true then (Ju H S (n+1) r).map (x:: ·) else none else none:=by rfl
@[go_sem] theorem Zmc {S n i f r} :Ju H S n ((i,.fn (.func f) [] [])::r)=if i=n then if 1=S then (Ju H S (n+1) r).map (.fn f:: ·) else none else none:=by simp [Ju,pvo,PV.cells,PV.one]
def Qd (P:Program) (t:TypeId):Option (Nat×Nat):=match P.underlying t with
 | some (.slice e)=>match YZ P e,zval P e,(P.info? e).map (·.bytes) with
  | some S,some z,some by'=>if 0<S/\z.cells.length=S/\z.cells.all (·.one)=true/\by'≠0 then some (S,by') else none
  | _,_,_=>none
 | _=>none
theorem Ff {S by'} (h:Qd P t=some (S,by')): ∃e z,P.underlying t=some (.slice e)/\YZ P e=some S/\zval P e=some z/\(P.info? e).map (·.bytes)=some by'/\0<S/\z.cells.length=S/\z.cells.all (·.one)=true/\by'≠0:=by
 unfold Qd at h
 grind
def YB (D:Option TypeDesc) (H:List Obj) (y:V):Option (List PV):=match D,y with
 | some (.slice _),.p (.list _ ys)=>some ys
 | some (.slice _),.sl o off len tot=>match oat H o with
  | .elems _ xs=>if xs.length=tot/\off+len<=tot then some ((xs.take (off+len)).drop off) else none
  | _=>none
 | some .string,.p (.str s)=>some (s.map fun b=> .int .u8 b.toNat)
 | _,_=>none
def nN (ob:Obj) (off len tot:Nat):Option (List PV):=match ob with | .elems _ xs=>if xs.length=tot/\off+len<=tot then some ((xs.take (off+len)).drop off) else none | _=>none
@[go_sem] theorem yQ {e c ys} :YB (some (.slice e)) H (.p (.list c ys))=some ys:=Zk rfl rfl
@[go_sem] theorem Zhv {e o off len tot} :YB (some (.slice e)) H (.sl o off len tot)=nN (oat H o) off len tot:=Zk rfl rfl
theorem Om {S xs n} (h:List.length xs=n):nN (.elems S xs) 0 n n=some xs:=by grind [nN]
def Mt (H:List Obj) (F:Option (Nat×Nat)) (ys:Option (List PV)):Option (V×List Obj):=match F,ys with
 | some (S,by'),some ys=>if AO S ys=true/\ys.length*by'<=140737488355328/\ys.length<=140737488355328 then some (.sl H.length 0 ys.length ys.length,H++ [.elems S ys]) else none
 | _,_=>none
def V0 (H:List Obj) (F:Option (Nat×Nat)) (ob:Obj) (o n:Nat) (ys:Option (List PV)):Option (V×List Obj):=match F,ob,ys with
 | some (S,by'),.elems S' xs,some ys=>if S'=S/\xs.length=n/\AO S ys=true/\(n+ys.length)*by'<=140737488355328/\n+ys.length<=140737488355328 then
   some (.sl o 0 (n+ys.length) (n+ys.length),F4 H o (.elems S (xs++ys))) else none
 | _,_,_=>none
theorem Iy {z x y ys e S by'} (h1:P.underlying t=some (.slice e)) (h2:YZ P e=some S) (h3:zval P e=some z) (h4:(P.info? e).map (·.bytes)=some by') (h5:GU P H u y=some ys) (h6:0<S/\z.cells.length=S/\z.cells.all (·.one)=true/\by'≠0) :
  WR P H t u x y=if AO S ys=true then (match x with
    | .p (.list cl xs)=>if cl=true/\AO S xs=true/\(xs= []\/0<ys.length)/\(xs.length+ys.length)*by'<=140737488355328/\xs.length+ys.length<=140737488355328 then
      some (.sl H.length 0 (xs.length+ys.length) (xs.length+ys.length),H++ [.elems S (xs++ys)]) else none
    | .sl o off len tot=>match oat H o with
     | .elems S' xs=>if S'=S/\off=0/\len=tot/\xs.length=tot/\(tot+ys.length)*by'<=140737488355328/\tot+ys.length<=140737488355328 then
       some (.sl o 0 (tot+ys.length) (tot+ys.length),F4 H o (.elems S (xs++ys))) else none
     | _=>none
    | _=>none) else none:=by
 simp only [WR,h1,h2,h3,h4,h5]
 grind
theorem BU {y F} (hF:Qd P t=some F):WR P H t u (.p (.list true [])) y=Mt H (some F) (YB (P.underlying u) H y):=by
 obtain ⟨S,by'⟩:=F;obtain ⟨e,z,h1,h2,h3,h4,h6⟩:=Ff hF;have e1:YB (P.underlying u) H y=GU P H u y:=Zk rfl rfl;rw [e1]
 cases h5:GU P H u y with
 | none=>grind [WR,Mt]
 | some ys =>
  grind [Iy,Mt,AO]
theorem X7 {y F o n} (hF:Qd P t=some F):WR P H t u (.sl o 0 n n) y=V0 H (some F) (oat H o) o n (YB (P.underlying u) H y):=by
 obtain ⟨S,by'⟩:=F;obtain ⟨e,z,h1,h2,h3,h4,h6⟩:=Ff hF;have e1:YB (P.underlying u) H y=GU P H u y:=Zk rfl rfl;rw [e1]
 cases h5:GU P H u y with
 | none =>
  grind [WR,V0]
 | some ys =>
  rw [Iy h1 h2 h3 h4 h5 h6];simp only [V0]
  grind
@[go_sem] theorem Zeq {S b ys} :Mt H (some (S,b)) (some ys)=if AO S ys=true/\ys.length*b<=140737488355328/\ys.length<=140737488355328 then some (.sl H.length 0 ys.length ys.length,H++ [.elems S ys]) else none:=Zk rfl rfl
theorem Hh {S b xs ys o n} (hn:xs.length=n) (hb:(n+ys.length)*b<=140737488355328) (hb2:n+ys.length<=140737488355328):V0 H (some (S,b)) (.elems S xs) o n (some ys)=if AO S ys=true then some (.sl o 0 (n+ys.length) (n+ys.length),F4 H o (.elems S (xs++ys))) else none:=by
 simp_all [V0]
@[go_sem] theorem Zj9 {α:Type} {S} {f:α->PV} {l:List α} :nN (.elems S (l.map f)) 0 l.length l.length=some (l.map f):=Om Zb
@[go_sem] theorem Zka {S x} :nN (.elems S [x]) 0 1 1=some [x]:=Om Zb
@[go_sem] theorem Zes {α:Type} {S b o x} {f:α->PV} {l:List α} (hb:(l.length+1)*b<=140737488355328) (hb2:l.length+1<=140737488355328):V0 H (some (S,b)) (.elems S (l.map f)) o l.length (some [x])=if AO S [x]=true then some (.sl o 0 (l.length+1) (l.length+1),F4 H o (.elems S (l.map f++ [x]))) else none :=
 Hh Zb Za Za
@[go_sem] theorem Zet {α β:Type} {S b o} {f:α->PV} {g:β->PV} {l:List α} {m:List β} (hb:(l.length+m.length)*b<=140737488355328) (hb2:l.length+m.length<=140737488355328):V0 H (some (S,b)) (.elems S (l.map f)) o l.length (some (m.map g))=if AO S (m.map g)=true then some (.sl o 0 (l.length+m.length) (l.length+m.length),F4 H o (.elems S (l.map f++m.map g))) else none:=by
 grind [Hh]
@[go_sem] theorem Zmo {S} :AO S []=true:=Zk rfl rfl
@[go_sem] theorem ZjF {S x l} :AO S (x::l)=((x.cells.length==S)&&x.cells.all (·.one)&&AO S l):=by rfl
theorem Ka {α:Type} {S} {f:α->PV} {l:List α} (h: ∀x,Zc2 S (f x)=true):AO S (l.map f)=true:=by grind [AO]
def Sq (P:Program) (t:TypeId):Option (Nat×Nat×PV):=match P.underlying t with
  | some (.slice e)=>match YZ P e,zval P e,(P.info? e).map (·.bytes) with
   | some S,some z,some by'=>if z.cells.all (·.one)=true/\z.cells.length=S/\0<S then some (S,by',z) else none
   | _,_,_=>none
  | _=>none
end
def WE : Nat->List Nat->List V->List V
 | _,_,[]=> []
 | i,[],_::l=> .junk::WE (i+1) [] l
 | i,k::ks,x::l=>if i=k then x::WE (i+1) ks l else .junk::WE (i+1) (k::ks) l
def Kv : List (Nat×V)->List V->List V
 | [],fr=>fr
 | (i,v)::r,fr=>Kv r (pt fr i v)
@[go_sem] theorem Ze2 {i ks} :WE i ks []= []:=by rfl
@[go_sem] theorem ZcS {i x l} :WE i [] (x::l)= .junk::WE (i+1) [] l:=by simp [WE]
@[go_sem] theorem ZcR {i k ks x l} :WE i (k::ks) (x::l)=if i=k then x::WE (i+1) ks l else .junk::WE (i+1) (k::ks) l:=by simp [WE]
@[go_sem] theorem ZpV : ((0:Nat):Int)=0:=Zk rfl rfl
@[go_sem] theorem ZpW {n:Nat} :((n+1:Nat):Int)=(n:Int)+1:=Zk rfl rfl
@[go_sem] theorem ZoP {n:Nat} :((n:Int)).toNat=n:=Zk rfl rfl
@[go_sem] theorem Zj2 {fr} :Kv [] fr=fr:=by simp [Kv]
@[go_sem] theorem Zfh {i v r fr} :Kv ((i,v)::r) fr=Kv r (pt fr i v):=by simp [Kv]
@[go_sem] theorem Zlv {p q:Prop} [Decidable p] [Decidable q]:(decide p&&decide q)=decide (p/\q):=Zb
@[go_sem] theorem Zc6 {p q:Prop} [Decidable p] [Decidable q]:(decide p||decide q)=decide (p\/q):=Zb
theorem Zl {P c fr H Q} {I:Type} (ks:List Nat) (sets:I->List (Nat×V)) (hs:I->List Obj) (R:I->Prop) (μ:I->Nat) (i0:I) (hR:R i0) (h0:Weak H.length fr H (Kv (sets i0) (WE 0 ks fr)) (hs i0))
  (round: ∀i,R i->JK [] P c (Kv (sets i) (WE 0 ks fr)) (hs i) (QS (fun fr' H'=> ∃i',R i'/\μ i'<μ i/\Weak H.length fr' H' (Kv (sets i') (WE 0 ks fr)) (hs i')) Q)):AWP P (.loop c) fr H Q :=
 MA R (fun i=>Kv (sets i) (WE 0 ks fr)) hs μ i0 hR h0 fun i hi=>Zg [] _ _ _ _ (round i hi)
theorem Z0 {P c fr H Q} (cuts:List Nat) {I:Type} (ks:List Nat) (sets:I->List (Nat×V)) (hs:I->List Obj) (R:I->Prop) (μ:I->Nat) (i0:I) (hR:R i0) (h0:Weak H.length fr H (Kv (sets i0) (WE 0 ks fr)) (hs i0))
  (round: ∀i,R i->JK cuts P c (Kv (sets i) (WE 0 ks fr)) (hs i) (QS (fun fr' H'=> ∃i',R i'/\μ i'<μ i/\Weak H.length fr' H' (Kv (sets i') (WE 0 ks fr)) (hs i')) Q)):AWP P (.loop c) fr H Q :=
 MA R (fun i=>Kv (sets i) (WE 0 ks fr)) hs μ i0 hR h0 fun i hi=>Zg cuts _ _ _ _ (round i hi)
theorem ZJ {P x y fr H Q} {I:Type} (ks:List Nat) (sets:I->List (Nat×V)) (hs:I->List Obj) (R:I->Prop)
  (h:JK [] P x fr H (QS (fun fr' H'=> ∃i,R i/\Weak H.length fr' H' (Kv (sets i) (WE 0 ks fr)) (hs i)) Q)) (k: ∀i,R i->AWP P y (Kv (sets i) (WE 0 ks fr)) (hs i) Q):AWP P (.seq x y) fr H Q :=
 fun F ι a w hr hf=>by
 refine wp_seq (wp_mono (Zg [] _ _ _ _ h F ι a w hr hf) ?_);rintro e a' w' ⟨fr',H',ι',q,g,f⟩
 cases e with
 | normal =>
  obtain ⟨i,hi,hw⟩:=q;obtain ⟨ι2,r2,f2,g2⟩:=hw F ι' a' w' g.rel f;refine wp_mono (k i hi F ι2 a' w' r2 f2) ?_;rintro e2 a2 w2 ⟨fr2,H2,ι3,q2,g3,f3⟩;exact ⟨fr2,H2,ι3,q2,(g2 H ι w (ZB _) g).trans g3,f3⟩
 | exit id=>exact ⟨fr',H',ι',q,g,f⟩
 | goto l=>exact ⟨fr',H',ι',q,g,f⟩
 | ret=>exact ⟨fr',H',ι',q,g,f⟩
 | panic ch=>exact ⟨fr',H',ι',q,g,f⟩
 | outgrown=>exact ⟨fr',H',ι',q,g,f⟩
theorem Zk8 {H n x} :D1 H n x x=(refB n x=true\/x= .junk\/ ∃y,dQ H n x=some y/\x= .p y):=by
 simp only [D1,true_and,eq_iff_iff]
 grind
@[go_sem] theorem Zk6 {H n x} :D1 H n x .junk=True:=by simp [D1]
@[go_sem] theorem ZpN {H n} {x y:PV} :D1 H n (.p x) (.p y)=(y=x):=by simp [D1,refB,dQ]
@[go_sem] theorem Znh {H n o off len tot o' off' len' tot'} :D1 H n (.sl o off len tot) (.sl o' off' len' tot')=((o'=o/\off'=off/\len'=len/\tot'=tot)/\o<n):=by simp [D1,refB]
@[go_sem] theorem Zk7 {H n o off o' off'} :D1 H n (.ptr o off) (.ptr o' off')=((o'=o/\off'=off)/\o<n):=by simp [D1,refB]
theorem vJ {H n o off len tot y} :D1 H n (.sl o off len tot) (.p y)=(dQ H n (.sl o off len tot)=some y):=by simp [D1]
@[go_sem] theorem Znd {H n} :ON H n [] []=True:=by simp [ON]
@[go_sem] theorem Zk3 {H n x l x' l'} :ON H n (x::l) (x'::l')=(D1 H n x x'/\ON H n l l'):=by simp [ON]
@[go_sem] theorem Zne {H n l} :OG H n l []=True:=by simp [OG]
@[go_sem] theorem Zk4 {H n x l x' l'} :OG H n (x::l) (x'::l')=(E4 H n x x'/\OG H n l l'):=by simp [OG]
@[go_sem] theorem Zgm {H n cs cs'} :E4 H n (.cells cs) (.cells cs')=ON H n cs cs':=by simp [E4]
@[go_sem] theorem Zgn {H n S S' xs xs'} :E4 H n (.elems S xs) (.elems S' xs')=(S=S'/\xs=xs'):=by simp [E4]
@[go_sem] theorem Znf {H n es es2} :E4 H n (.map es) (.map es2)=(es=es2):=by simp [E4]
@[go_sem] theorem ZpM {H n o o2} :D1 H n (.mp o) (.mp o2)=(o2=o/\o<n):=by simp [D1,refB,dQ]
@[go_sem] theorem Zk5 {H n} :E4 H n .dead .dead=True:=by simp [E4]
theorem Weak.mk {n0 fr H fr' H'} (h:n0<=H'.length/\H'.length<=H.length/\ON H H'.length fr fr'/\OG H H'.length H H'):Weak n0 fr H fr' H':=Weak.of h.1 h.2.2.1 h.2.2.2 h.2.1
theorem wk {n0 fr H fr' H'} (h:n0<=H'.length/\H'.length<=H.length/\ON H H'.length fr fr'/\OG H H'.length H H':=by simp (disch:=omega) only [go_sem,seval]):Weak n0 fr H fr' H':=Weak.mk h
theorem we {n0 x H' a b} (h:n0<=List.length b/\List.length b<=H'.length/\ON H' (List.length b) [x] [a]/\OG H' (List.length b) H' b:=by simp (disch:=omega) only [go_sem,seval]): ∃y H'',Weak n0 [x] H' [y] H''/\y=a/\H''=b:=⟨_,_,Weak.mk h,rfl,rfl⟩
attribute [go_sem] List.length_cons List.length_nil List.cons_append List.nil_append List.append_nil List.map_cons List.map_nil List.drop_zero List.drop_succ_cons List.drop_nil List.take_succ_cons List.take_zero List.take_nil List.all_cons List.all_nil
 Xl Ub and_self true_and and_true AB AA EH Cv JY VH Bool.and_self ZY if_true YE VI VE IntWalk.i64_in IntWalk.i32_in IntWalk.u8_in IntWalk.u64_in IntWalk.u32_in
 beq_self_eq_true KI List.replicate_zero Bool.or_true Bool.true_or Bool.or_false Bool.false_or YD Vj
end Go.AM
namespace Go.AM
open Go.RowKit
theorem RP.weaker {X X':Nat->Prop} {w x v} (h:RP X w x v) (hx: ∀b,X' b->X b):RP X' w x v:=h.ext (w':=w) fun _ hb hs=>⟨fun h=>hb (hx _ h),hs,rfl⟩
theorem Good.forget {F w H' ι' w'} (he:Env F [] w) (hf: ∀b,F b->b<w.heap.size) (g:Good F [] [] w H' ι' w'):Good F [] [] w [] [] w' :=
 .up he ⟨⟨rfl,fun b hb=>by have:=hf b hb;have:=g.size;omega,fun i j b hi=>by simp at hi,fun i b hi=>by simp at hi,fun o cs ho=>by simp at ho,fun o S xs ho=>by simp at ho,fun o es ho=>by simp at ho,fun o T E r bs ho=>by simp at ho⟩,
  g.os,g.tape,g.output,fun b c t h=>(g.shape b c t h).imp (fun h=>absurd h.1 Zb) id,g.size,g.keep,fun _ _ h=>h,fun o ob ho=>by simp at ho⟩
theorem ACalls.pure {P g args} {y:PV} (h:ACalls P g args [] fun x _=>x= .p y):ACalls P g args [] fun x H'=>x= .p y/\H'= []:=by
 refine ⟨h.1,fun F ι w vs hr hv=> ?_⟩;have hι:ι= []:=YC hr.len;subst hι;refine (h.2 F [] w vs hr hv).mono ?_;rintro e w' ⟨x,H',ι',v,rfl,rfl,gd,rv⟩
 cases rv with | p _ _ rp =>
 exact ⟨_,[],[],v,rfl,⟨rfl,rfl⟩,gd.forget hr.env hr.fin,.p _ _ (rp.weaker fun b hb=> .inl (by rcases hb with hb | hb;exact hb;simp at hb))⟩
theorem FH {F:Nat->Prop} {w w':World} {H':List Obj} {ι':List (Option Nat)} {v:Value} {o S n:Nat} {xs:List PV} (hF: ∀b,F b->b<w.heap.size) (hn:xs.length=n) (ho:oat H' o= .elems S xs)
  (gd:Good F [] [] w H' ι' w') (rv:RV F H' ι' w' (.sl o 0 n n) v): ∃ι2,Good F [] [] w [.elems S xs] ι2 w'/\RV F [.elems S xs] ι2 w' (.sl 0 0 n n) v:=by
 have hH:=Xx ho Zb;have hlt:=(ZU.1 hH).1
 have hlt':o<ι'.length:=by rw [gd.rel.len];exact hlt
 have hι':ι'[o]? =some (ι'[o]):=by simp [hlt']
 have hget: ∀ {i:Nat} {q:Option Nat},[ι'[o]][i]? =some q->i=0/\ι'[o]? =some q:=fun {i q} h=>by
  grind
 have hown: ∀b,Own F [ι'[o]] b->Own F ι' b:=fun b hb=>by
  rcases hb with hb | hb
  ·exact .inl hb
  ·simp at hb;right;rw [hb];simp
 refine ⟨[ι'[o]],⟨⟨⟨rfl,fun b hb=> ?_,fun i j b hi hj=> ?_,fun i b hi=> ?_,fun o' cs ho'=> ?_,fun o' S' xs' ho'=> ?_,fun o' es ho'=>by grind,fun o' T E r bs ho'=>by grind⟩,gd.rel.env.le hown⟩,gd.os,gd.tape,gd.output,fun b c t h=>(gd.shape b c t h).imp (fun h=>absurd h.1 Zb) id,gd.size,gd.keep,fun b hb _ h=> ?_,fun o ob ho=>by simp at ho⟩,?_⟩
 ·have:=hF b hb;have:=gd.size;omega
 ·grind
 ·exact gd.rel.avo o b (hget hi).2
 ·grind
 ·cases o' with
  | zero =>
   simp at ho';obtain ⟨rfl,rfl⟩:=ho';rcases gd.rel.elm o _ _ hH with ⟨e1,e2⟩ | ⟨b,c,t,cap,e1,e2,e3,e4,e5,e6,e7⟩
   ·grind
   ·exact .inr ⟨b,c,t,cap,by grind,e2,e3,e4,e5,e6,fun i x j y hi hj=>(e7 i x j y hi hj).weaker hown⟩
  | succ i=>simp at ho'
 ·simp at h;exact gd.own b hb Zb (by rw [h];simp)
 ·cases rv with
  | slNil _ S2 a h1 h2 =>
   rw [hH] at h2;simp at h2;obtain ⟨rfl,rfl⟩:=h2;exact .slNil 0 S a (by grind) rfl
  | sl _ _ _ _ b S2 cap t xs2 c h1 h2 ht hw hcap hl hlen hm =>
   rw [hH] at h2;simp at h2;obtain ⟨rfl,rfl⟩:=h2;exact .sl 0 0 n n b S cap t xs c (by grind) rfl hn hw hcap hl hlen hm
  | slD _ _ _ _ _ h1=>grind
  | slS _ _ _ _ _ S2 xs2 h1 hne=>grind
  | slC _ _ _ _ _ _ hd=>grind
theorem ACalls.fresh {P g args} {S n:Nat} {xs:List PV} (hn:xs.length=n) (h:ACalls P g args [] fun x H'=> ∃o,x= .sl o 0 n n/\oat H' o= .elems S xs):ACalls P g args [] fun x H'=>x= .sl 0 0 n n/\H'= [.elems S xs]:=by
 refine ⟨h.1,fun F ι w vs hr hv=> ?_⟩;have hι:ι= []:=YC hr.len;subst hι;refine (h.2 F [] w vs hr hv).mono ?_;rintro e w' ⟨x,H',ι',v,rfl,⟨o,rfl,ho⟩,gd,rv⟩;obtain ⟨ι2,g2,r2⟩:=FH hr.fin hn ho gd rv
 grind
theorem ACalls.freshE {P g args} {α:Type} {S:Nat} {f:α->PV} {R:List α->Prop} (h:ACalls P g args [] fun x H'=> ∃l:List α,R l/\ ∃o,x= .sl o 0 l.length l.length/\oat H' o= .elems S (l.map f)) :
  ACalls P g args [] fun x H'=> ∃l:List α,R l/\x= .sl 0 0 l.length l.length/\H'= [.elems S (l.map f)]:=by
 refine ⟨h.1,fun F ι w vs hr hv=> ?_⟩;have hι:ι= []:=YC hr.len;subst hι;refine (h.2 F [] w vs hr hv).mono ?_;rintro e w' ⟨x,H',ι',v,rfl,⟨l,hl,o,rfl,ho⟩,gd,rv⟩;obtain ⟨ι2,g2,r2⟩:=FH hr.fin Zb ho gd rv
 grind
theorem ACalls.frozen {P g args} {S n:Nat} {xs:List PV} (hn:xs.length=n) (h:ACalls P g args [] fun x H'=>x= .sl 0 0 n n/\H'= [.elems S xs]):ACalls P g args [] fun x H'=>x= .p (.list false xs)/\H'= []:=by
 refine ⟨h.1,fun F ι w vs hr hv=> ?_⟩;have hι:ι= []:=YC hr.len;subst hι;refine (h.2 F [] w vs hr hv).mono ?_;rintro e w' ⟨x,H',ι',v,rfl,⟨rfl,rfl⟩,gd,rv⟩;have hk:Keeps (Own F ι') w' (Own F []) w':=fun b hb hs=>⟨fun h=>hb (.inl (by rcases h with h | h;exact h;simp at h)),hs,rfl⟩
 have:=BI (S:=S) (xs:=xs) (off:=0) (len:=n) (tot:=n) (Own F []) (fun b hb h=>by
  rcases h with h | h
  ·exact (gd.rel.avo 0 b hb).1 h
  ·simp at h) hk gd.rel rfl hn Za rv
 rw [Xl,EL,Cx Za] at this;exact ⟨_,[],[],v,rfl,⟨rfl,rfl⟩,gd.forget hr.env hr.fin,.p _ _ this⟩
theorem ACalls.frozenE {P g args} {α:Type} {S:Nat} {f:α->PV} {R:List α->Prop} (h:ACalls P g args [] fun x H'=> ∃l:List α,R l/\x= .sl 0 0 l.length l.length/\H'= [.elems S (l.map f)]) :
  ACalls P g args [] fun x H'=> ∃l:List α,R l/\x= .p (.list false (l.map f))/\H'= []:=by
 refine ⟨h.1,fun F ι w vs hr hv=> ?_⟩;have hι:ι= []:=YC hr.len;subst hι;refine (h.2 F [] w vs hr hv).mono ?_;rintro e w' ⟨x,H',ι',v,rfl,⟨l,hl,rfl,rfl⟩,gd,rv⟩;have hk:Keeps (Own F ι') w' (Own F []) w':=fun b hb hs=>⟨fun h=>hb (.inl (by rcases h with h | h;exact h;simp at h)),hs,rfl⟩
 have:=BI (S:=S) (xs:=l.map f) (off:=0) (len:=l.length) (tot:=l.length) (Own F []) (fun b hb h=>by
  rcases h with h | h
  ·exact (gd.rel.avo 0 b hb).1 h
  ·simp at h) hk gd.rel rfl Zb Za rv
 rw [Xl,EL,Cx Zb] at this;exact ⟨_,[],[],v,rfl,⟨l,hl,rfl,rfl⟩,gd.forget hr.env hr.fin,.p _ _ this⟩
theorem ACalls.useV {P g args} {α:Type} {f:α->PV} {R:α->Prop} {H:List Obj} {K:V->List Obj->Prop} (h:ACalls P g args [] fun x H'=> ∃a:α,R a/\x= .p (f a)/\H'= []) (k: ∀a,R a->K (.p (f a)) H) (ha:Xn 0 args=true:=by rfl):ACalls P g args H K:=by
 refine (h.behind ha H).mono ?_;rintro x H' ⟨y',H1,⟨a,ra,rfl,rfl⟩,rfl,rfl⟩
 grind [shV]
theorem ACalls.useE {P g args} {α:Type} {S:Nat} {f:α->PV} {R:List α->Prop} {H:List Obj} {K:V->List Obj->Prop} (h:ACalls P g args [] fun x H'=> ∃l:List α,R l/\x= .sl 0 0 l.length l.length/\H'= [.elems S (l.map f)])
  (k: ∀l,R l->K (.sl H.length 0 l.length l.length) (H++ [.elems S (l.map f)])) (ha:Xn 0 args=true:=by rfl):ACalls P g args H K:=by
 refine (h.behind ha H).mono ?_;rintro x H' ⟨y',H1,⟨l,rl,rfl,rfl⟩,rfl,rfl⟩
 grind [shV,shO]
theorem ACalls.use {P g args} {y:PV} {H:List Obj} {K:V->List Obj->Prop} (h:ACalls P g args [] fun x H'=>x= .p y/\H'= []) (k:K (.p y) H) (ha:Xn 0 args=true:=by rfl):ACalls P g args H K:=by
 refine (h.behind ha H).mono ?_;rintro x H' ⟨y',H1,⟨rfl,rfl⟩,rfl,rfl⟩
 grind [shV]
theorem ACalls.useF {P g args} {S n:Nat} {xs:List PV} {H:List Obj} {K:V->List Obj->Prop} (h:ACalls P g args [] fun x H'=>x= .sl 0 0 n n/\H'= [.elems S xs]) (k:K (.sl H.length 0 n n) (H++ [.elems S xs])) (ha:Xn 0 args=true:=by rfl):ACalls P g args H K:=by
 refine (h.behind ha H).mono ?_;rintro x H' ⟨y',H1,⟨rfl,rfl⟩,rfl,rfl⟩
 grind [shV,shO]
theorem Zd {P:Program} {g:FuncId} {fn:Func} {c:Code} {args:List V} {y:PV} (hf:P.funcs[g]? =some fn) (hb:fn.body=some c) (hg:Zj P g)
  (h:JK [] P c (args++List.replicate (fn.ntmps-args.length) .junk) [] (BG P fn.results.toList fun x _=>x= .p y)):ACalls P g args [] fun x H'=>x= .p y/\H'= [] :=
 (YT hf hb hg (Zg [] _ _ _ _ h)).pure
theorem UU (cuts:List Nat) {P:Program} {g:FuncId} {fn:Func} {c:Code} {args:List V} {y:PV} (hf:P.funcs[g]? =some fn) (hb:fn.body=some c) (hg:Zj P g)
  (h:JK cuts P c (args++List.replicate (fn.ntmps-args.length) .junk) [] (BG P fn.results.toList fun x _=>x= .p y)):ACalls P g args [] fun x H'=>x= .p y/\H'= [] :=
 (YT hf hb hg (Zg cuts _ _ _ _ h)).pure
theorem UT {P:Program} {g:FuncId} {fn:Func} {c:Code} {args:List V} {S n:Nat} {xs:List PV} (hn:xs.length=n) (hf:P.funcs[g]? =some fn) (hb:fn.body=some c) (hg:Zj P g)
  (h:JK [] P c (args++List.replicate (fn.ntmps-args.length) .junk) [] (BG P fn.results.toList fun x H'=> ∃o,x= .sl o 0 n n/\oat H' o= .elems S xs)):ACalls P g args [] fun x H'=>x= .sl 0 0 n n/\H'= [.elems S xs] :=
 (YT hf hb hg (Zg [] _ _ _ _ h)).fresh hn
theorem GS (cuts:List Nat) {P:Program} {g:FuncId} {fn:Func} {c:Code} {args:List V} {S n:Nat} {xs:List PV} (hn:xs.length=n) (hf:P.funcs[g]? =some fn) (hb:fn.body=some c) (hg:Zj P g)
  (h:JK cuts P c (args++List.replicate (fn.ntmps-args.length) .junk) [] (BG P fn.results.toList fun x H'=> ∃o,x= .sl o 0 n n/\oat H' o= .elems S xs)):ACalls P g args [] fun x H'=>x= .sl 0 0 n n/\H'= [.elems S xs] :=
 (YT hf hb hg (Zg cuts _ _ _ _ h)).fresh hn
theorem ZQ (cuts:List Nat) {P:Program} {g:FuncId} {fn:Func} {c:Code} {args:List V} {α:Type} {S:Nat} {f:α->PV} {R:List α->Prop} (hf:P.funcs[g]? =some fn) (hb:fn.body=some c) (hg:Zj P g)
  (h:JK cuts P c (args++List.replicate (fn.ntmps-args.length) .junk) [] (BG P fn.results.toList fun x H'=> ∃l:List α,R l/\ ∃o,x= .sl o 0 l.length l.length/\oat H' o= .elems S (l.map f))):ACalls P g args [] fun x H'=> ∃l:List α,R l/\x= .sl 0 0 l.length l.length/\H'= [.elems S (l.map f)] :=
 (YT hf hb hg (Zg cuts _ _ _ _ h)).freshE
theorem Weak.ofNil {n0 fr H fr' H'} (t S:Nat) (h:gt fr t= .p (.list true [])) (hn:n0<=H.length) (k:Weak n0 (pt fr t (.sl H.length 0 0 0)) (H++ [.elems S []]) fr' H'):Weak n0 fr H fr' H' :=
 (Weak.nil t S h hn).trans k
end Go.AM
namespace Go.AM
open Go.RowKit
section
variable {P : Program} {H : List Obj} {t : TypeId} {fr : List V}
def Fh (e:Option (Option Nat×Nat)) (c:Bool) (xs:List PV) (lo hi:V):Option V:=match e,lo,hi with
 | some (none,S),.p (.int _ a),.p (.int _ b)=>if BZ S xs=true/\0<=a/\a<=b/\b<=xs.length then some (.p (.list (c&&decide (b=xs.length)) ((xs.take b.toNat).drop a.toNat))) else none
 | _,_,_=>none
def V.isInt : V->Option Int
 | .p (.int _ n)=>some n
 | _=>none
theorem V.isInt_some {x:V} {n} (h:x.isInt=some n): ∃k,x= .p (.int k n):=by
 unfold V.isInt at h;grind
theorem Jk {d:Int} {x:Operand} :OL d fr (some x)=(ev fr x).isInt:=rfl
theorem Dn {c xs k k' a b} :(JJ P t c xs a b none).map .p=Fh (Y3 P t) c xs (.p (.int k a)) (.p (.int k' b)):=by
 simp only [JJ,Fh]
 grind
theorem RF {e c xs lo hi} (h:lo.isInt=none):Fh e c xs lo hi=none:=by
 unfold Fh;grind [V.isInt]
theorem RE {e c xs lo hi} (h:hi.isInt=none):Fh e c xs lo hi=none:=by
 unfold Fh;grind [V.isInt]
@[go_sem] theorem Zev {c xs hi} :Vd P H t fr (.p (.list c xs)) none (some hi) none=Fh (Y3 P t) c xs (.p (.int .i64 0)) (ev fr hi):=by
 simp only [Vd,Jk]
 cases h:(ev fr hi).isInt with
 | none=>simp [OL,RE h]
 | some n=>obtain ⟨k,e⟩:=V.isInt_some h;rw [e,<- Dn];rfl
@[go_sem] theorem Zew {c xs lo} :Vd P H t fr (.p (.list c xs)) (some lo) none none=Fh (Y3 P t) c xs (ev fr lo) (.p (.int .i64 (List.length xs))):=by
 simp only [Vd,Jk]
 cases h:(ev fr lo).isInt with
 | none=>simp [RF h]
 | some n=>obtain ⟨k,e⟩:=V.isInt_some h;rw [e,<- Dn];rfl
@[go_sem] theorem vS {c xs lo hi} :Vd P H t fr (.p (.list c xs)) (some lo) (some hi) none=Fh (Y3 P t) c xs (ev fr lo) (ev fr hi):=by
 simp only [Vd,Jk]
 cases h:(ev fr lo).isInt with
 | none=>simp [RF h]
 | some n =>
  cases h2:(ev fr hi).isInt with
  | none=>simp [RE h2]
  | some m=>grind [V.isInt_some,Dn]
@[go_sem] theorem Zhu {α:Type} {f:α->PV} {l:List α} {S c k k' a b} (h0:0<=a) (h1:a<=b) (h2:b<=(l.length:Int)) :
  Fh (some (none,S)) c (l.map f) (.p (.int k a)) (.p (.int k' b))=if BZ S (l.map f)=true then some (.p (.list (c&&decide (b=l.length)) (((l.take b.toNat).drop a.toNat).map f))) else none:=by
 simp_all [Fh]
end
def Mp (P:Program) (d:Option TypeDesc) (x i:V):Option V :=
 match d,x,i with
 | some .string,.p (.str s),.p (.int _ n)=>if 0<=n then (s[n.toNat]?).map fun b=> .p (.int .u8 b.toNat) else none
 | some (.array k e),.p (.agg cs),.p (.int _ n)=>if 0<=n/\n<k then (match YZ P e with | some m=>(apart P e cs (n.toNat*m)).map .p | none=>none) else none
 | _,_,_=>none
@[go_sem] theorem Zlp {P:Program} {t:TypeId} {x i:V} :Mq P t x i=Mp P (P.underlying t) x i:=Zk rfl rfl
@[go_sem] theorem Zeb {P:Program} {s:List UInt8} {k n} (h0:0<=n) (h1:n<(s.length:Int)):Mp P (some .string) (.p (.str s)) (.p (.int k n))=some (.p (.int .u8 ((nth s n.toNat).toNat:Nat))):=by
 grind [Mp,Zh]
def IM (d:Option TypeDesc) (s:List UInt8) (lo hi:V):Option V:=match d,lo,hi with
 | some .string,.p (.int _ a),.p (.int _ b)=>if 0<=a/\a<=b/\b<=s.length then some (.p (.str ((s.take b.toNat).drop a.toNat))) else none
 | _,_,_=>none
theorem pT {d s lo hi} (h:lo.isInt=none):IM d s lo hi=none:=by
 unfold IM;grind [V.isInt]
theorem pS {d s lo hi} (h:hi.isInt=none):IM d s lo hi=none:=by
 unfold IM;grind [V.isInt]
section
variable {P : Program} {H : List Obj} {t : TypeId} {fr : List V}
theorem TA {s:List UInt8} {k k' a b} :(match P.underlying t with | some .string=>(if 0<=a/\a<=b/\b<=(s.length:Int) then some (V.p (.str ((s.take b.toNat).drop a.toNat))) else none) | _=>none)=IM (P.underlying t) s (.p (.int k a)) (.p (.int k' b)):=by
 simp only [IM]
 grind
@[go_sem] theorem pU {s lo hi} :Vd P H t fr (.p (.str s)) (some lo) (some hi) none=IM (P.underlying t) s (ev fr lo) (ev fr hi):=by
 simp only [Vd,Jk]
 cases h:(ev fr lo).isInt with
 | none=>rw [pT h];simp
 | some n =>
  cases h2:(ev fr hi).isInt with
  | none=>rw [pS h2];simp
  | some m =>
   grind [V.isInt_some,TA]
def Mw (e:Option (Option Nat×Nat)) (xs:List PV) (hi mx:V):Option V:=match e,hi,mx with
 | some (none,S),.p (.int _ b),.p (.int _ m)=>if BZ S xs=true/\0<=b/\b<=xs.length/\m=b then some (.p (.list true (xs.take b.toNat))) else none
 | _,_,_=>none
theorem pQ {e xs hi mx} (h:hi.isInt=none):Mw e xs hi mx=none:=by
 unfold Mw;grind [V.isInt]
theorem pR {e xs hi mx} (h:mx.isInt=none):Mw e xs hi mx=none:=by
 unfold Mw;grind [V.isInt]
@[go_sem] theorem vR {c xs hi mx} :Vd P H t fr (.p (.list c xs)) none (some hi) (some mx)=Mw (Y3 P t) xs (ev fr hi) (ev fr mx):=by
 simp only [Vd,Jk]
 cases h:(ev fr hi).isInt with
 | none=>grind [pQ]
 | some n =>
  cases h2:(ev fr mx).isInt with
  | none=>grind [pR]
  | some m =>
   obtain ⟨k,e⟩:=V.isInt_some h;obtain ⟨k2,e2⟩:=V.isInt_some h2;rw [e,e2];simp only [OL,JJ,Mw]
   grind
@[go_sem] theorem Zht {α:Type} {f:α->PV} {l:List α} {S k k' b m} (h0:m=b) (h1:b=(l.length:Int)):Mw (some (none,S)) (l.map f) (.p (.int k b)) (.p (.int k' m))=if BZ S (l.map f)=true then some (.p (.list true (l.map f))) else none:=by
 subst h0;subst h1;simp only [Mw,ZY]
 by_cases h:BZ S (l.map f)=true
 ·simp_all [Cx]
 grind
end
@[go_sem low] theorem fD {H:List Obj} {S b xs ys o n} :V0 H (some (S,b)) (.elems S xs) o n (some ys)=if xs.length=n/\AO S ys=true/\(n+ys.length)*b<=140737488355328/\n+ys.length<=140737488355328 then some (.sl o 0 (n+ys.length) (n+ys.length),F4 H o (.elems S (xs++ys))) else none:=by simp [V0]
@[go_sem] theorem Zng {H:List Obj} {n f a b f' a' b'} :D1 H n (.fn f a b) (.fn f' a' b')=((f'=f/\a'=a/\b'=b)/\refB n (.fn f a b)=true):=by simp [D1,dQ]
@[go_sem] theorem Zmu {n f a b} :refB n (.fn f a b)=(Xn n a&&Xn n b):=by simp [refB]
@[go_sem] theorem Zof {n x} :refB n (.p x)=true:=by simp [refB]
@[go_sem] theorem ZjW {n o off} :refB n (.ptr o off)=decide (o<n):=by simp [refB]
@[go_sem] theorem Zmv {n o off l t} :refB n (.sl o off l t)=decide (o<n):=by simp [refB]
@[go_sem] theorem Zff {n} :Xn n []=true:=by simp [Xn]
@[go_sem] theorem Zdi {n x l} :Xn n (x::l)=(refB n x&&Xn n l):=by simp [Xn]
theorem ACalls.useH {P g args H} {v:V} {H2:List Obj} {K:V->List Obj->Prop} (h:ACalls P g args H fun x H'=>x=v/\H'=H2) (k:K v H2):ACalls P g args H K :=
 h.mono (by grind)
theorem B0 {α:Type} {f:α->PV} {S:Nat} (h: ∀x,(f x).cells.length=S) (l:List α):BZ S (l.map f)=true:=by
 cases l with
 | nil=>rfl
 | cons x l=>simp [BZ,h]
@[go_sem] theorem Zlt {k k'} {a b:Int} (h:b<=a):IF false [.p (.int k a),.p (.int k' b)]=some (.int k a):=by simp [IF];omega
def QX (F:Option (Nat×Nat×PV)) (H:List Obj) (x y:V):Option (V×List Obj):=match F,x,y with
 | some (S,by',z),.p (.int .i64 n),.p (.int .i64 m)=>if n=m/\0<=n/\(by':Int)*n<=281474976710656/\n<=281474976710656 then some (.sl H.length 0 n.toNat n.toNat,H++ [.elems S (List.replicate n.toNat z)]) else none
 | _,_,_=>none
theorem Fc {P:Program} {t:TypeId} {fr:List V} {H:List Obj} {x y:Operand} {F} (h:Sq P t=some F):W5 P (.makeSlice t x y) fr H=QX (some F) H (ev fr x) (ev fr y):=by
 unfold Sq at h
 split at h
 ·rename_i e hu
  split at h
  ·rename_i S' z' b h1 h2 h3
   split at h
   ·rename_i hc;simp at h;subst h
    have h3':(P.info? e).map (fun x=>(x.bytes:Int))=some (b:Int):=by
     cases hi:P.info? e with
     | none=>grind
     | some i=>grind
    simp only [W5,hu,h2,hc.1,if_true,RB,h1,h3'];generalize ev fr x=X;generalize ev fr y=Y
    by_cases hX: ∃n,X= .p (.int .i64 n)
    ·obtain ⟨n,rfl⟩:=hX
     by_cases hY: ∃m,Y= .p (.int .i64 m)
     ·obtain ⟨m,rfl⟩:=hY;simp [QX,hc.2]
     ·have e1:QX (some (S',b,z')) H (.p (.int .i64 n)) Y=none:=by
       unfold QX;grind
      grind
    ·have e1:QX (some (S',b,z')) H X Y=none:=by
      unfold QX;grind
     grind
   ·cases h
  ·cases h
 ·cases h
@[go_sem] theorem Zek {H:List Obj} {S b:Nat} {z n} (h0:0<=n) (h1:(b:Int)*n<=281474976710656) (h2:n<=281474976710656):QX (some (S,b,z)) H (.p (.int .i64 n)) (.p (.int .i64 n))=some (.sl H.length 0 n.toNat n.toNat,H++ [.elems S (List.replicate n.toNat z)]):=by
 simp_all [QX]
theorem Zc7 (x y:Nat) (hx:x<9223372036854775808) (hy:y<9223372036854775808):IntKind.i64.wrap ((BitVec.ofInt 64 (x:Int)|||BitVec.ofInt 64 (y:Int)).toNat:Int)=((x|||y:Nat):Int):=by
 have e:(BitVec.ofInt 64 (x:Int)|||BitVec.ofInt 64 (y:Int)).toNat=x|||y:=by
  grind
 have h:x|||y<2^63:=Jb Za Za
 grind [IntWalk.i64_in]
theorem pB (x y:Nat) (hx:x<9223372036854775808) (hy:y<9223372036854775808):IntKind.i64.wrap ((BitVec.ofInt 64 (x:Int)&&&BitVec.ofInt 64 (y:Int)).toNat:Int)=((x&&&y:Nat):Int):=by
 grind [Nat.and_le_left,IntWalk.i64_in]
@[go_sem high] theorem eG {P:Program} {t:TypeId} {x y:Nat} (hx:x<9223372036854775808) (hy:y<9223372036854775808):Yl P .or t (.p (.int .i64 (x:Int))) (.p (.int .i64 (y:Int)))=some (.int .i64 ((x|||y:Nat):Int)):=by
 rw [Rw];exact Zw (fun q=>some (PV.int .i64 q)) (Zc7 x y hx hy)
@[go_sem high] theorem Tj {P:Program} {t:TypeId} {x y:Nat} (hx:x<9223372036854775808) (hy:y<9223372036854775808):Yl P .and t (.p (.int .i64 (x:Int))) (.p (.int .i64 (y:Int)))=some (.int .i64 ((x&&&y:Nat):Int)):=by
 rw [eD];exact Zw (fun q=>some (PV.int .i64 q)) (pB x y hx hy)
def pw (k:Nat):Nat:=2^k
theorem EV (k:Nat):pw (k+1)=2*pw k:=by grind [pw]
theorem Ko {k m:Nat} (h:k<=m):pw k<=pw m:=Ys Za h
theorem Ga (k:Nat):0<pw k:=Nat.pow_pos Za
theorem F9 : pw 62=4611686018427387904:=by decide
@[go_sem high] theorem ZdW {P:Program} {t:TypeId} {k'} {a:Int} (h0:0<=a) (h1:a<=62):Yl P .shl t (.p (.int .i64 1)) (.p (.int k' a))=some (.int .i64 ((pw a.toNat:Nat):Int)):=by
 rw [eK h0]
 have h2:min a.toNat IntKind.i64.bits=a.toNat:=by show min a.toNat 64=a.toNat;omega
 rw [h2,Int.one_mul]
 have h3:((2:Int)^a.toNat)=((pw a.toNat:Nat):Int):=by simp [pw]
 rw [h3];have:=Ko (show a.toNat<=62 by omega)
 grind [F9,IntWalk.i64_in]
attribute [go_sem] List.length_append List.map_append not_false_eq_true not_true_eq_false false_and and_false true_or or_true false_or or_false Classical.not_not Bool.false_eq_true Bool.and_false Bool.false_and
end Go.AM
namespace Go.AM
open Go.RowKit
theorem Lj {P ds frJ H} {K K':List V->Prop} : ∀(l:List Oper) (i:Nat) (vals:List V),(∀ys,ys.length=vals.length+l.length->K ys->K' ys)->hd P ds frJ H K i l vals->hd P ds frJ H K' i l vals
 | [],i,vals,hk,h=>hk vals rfl h
 | o::l,i,vals,hk,h=>by
  have ih: ∀y,hd P ds frJ H K (i+1) l (vals++ [y])->hd P ds frJ H K' (i+1) l (vals++ [y]):=fun y=>Lj l (i+1) (vals++ [y]) fun ys hy=>hk ys (by simp at hy ⊢;omega);simp only [hd] at h ⊢
  split at h
  ·obtain ⟨y,h1,h2⟩:=h;exact ⟨y,h1,ih y h2⟩
  ·unfold XS at h ⊢
   split at h
   ·exact ⟨fun e=>by obtain ⟨y,h1,h2⟩:=h.1 e;exact ⟨y,h1,ih y h2⟩,fun e=>ih _ (h.2 e)⟩
   ·exact ih _ h
   ·exact h.elim
def hall : List (Option Nat)->List V->List V->List V
 | some d::ds,v::vals,fr=>hall ds vals (pt fr d v)
 | none::ds,_::vals,fr=>hall ds vals fr
 | _,_,fr=>fr
theorem Bw (d:Option Nat) (v:V) (ds:List (Option Nat)) (vals:List V): ∀(l:List Nat) (fr:List V),ZT (d::ds) (v::vals) (l.map (· +1)) fr=ZT ds vals l fr
 | [],fr=>rfl
 | j::l,fr=>by
  simp only [Zq,ZT,Cv]
  split<;>exact Bw d v ds vals l _
theorem FN : ∀(ds:List (Option Nat)) (vals:List V) (fr:List V),vals.length=ds.length->ZT ds vals (List.range ds.length) fr=hall ds vals fr
 | [],[],fr,_=>rfl
 | d::ds,v::vals,fr,h=>by
  have ih:=fun fr=>FN ds vals fr (by simpa using h);rw [ZD,List.range_succ_eq_map]
  cases d with
  | none=>simp only [ZT,EH,hall];rw [Bw];exact ih fr
  | some d=>simp only [ZT,EH,hall];rw [Bw];exact ih _
 | [],_::_,_,h=>by simp at h
 | _::_,[],_,h=>by simp at h
theorem Fi {P:Program} {id:Nat} {l:List Oper} {fr:List V} {H:List Obj} {Q:Exit->List V->List Obj->Prop} {t} (hm:P.follows .mixedOrders=true) (hB:W7 (List.toArray l) l.length=true)
  (h:hd P (l.map (·.dst)) (Z4 (l.map (·.dst)) fr) H (Zu (fun vals=>Q .normal (hall (l.map (·.dst)) vals (Z4 (l.map (·.dst)) fr)) H) ⟨⟩) 0 l []) :
  AWP P (.region id (Zu (List.toArray l) t) true) fr H Q:=by
 refine Hj (ops:=List.toArray l) l.length hm hB ?_;have e0:(List.toArray l).toList=l:=rfl;rw [e0];have e1:(l.map (fun x=>Oper.dst x)).take l.length=l.map (·.dst):=Cx Zb;have e2:l.take l.length=l:=Yd
 have e3:l.drop l.length= []:=Zb
 rw [e1,e2,e3];refine Lj _ _ _ (fun ys hy hk=> ?_) h;have e4:=FN (l.map (·.dst)) ys (Z4 (l.map (·.dst)) fr) (by grind);rw [ZY] at e4;simp only [YH];rw [e4];exact hk
def T6 (A:V->Prop) (B:V->Prop):Prop:= ∃y,A y/\B y
section
variable {P : Program} {ds : List (Option Nat)} {frJ : List V} {H : List Obj} {K : List V -> Prop} {i : Nat} {r : List Oper} {vals : List V} {d : Option Nat} {op : Op} {t : TypeId} {ps : String} {af : Array Edge}
@[go_sem ↓] theorem ZnN : hd P ds frJ H K i [] vals=K vals:=Zk rfl rfl
@[go_sem ↓] theorem Zl8 : hd P ds frJ H K i (⟨d,op,t,ps,af,none⟩::r) vals=T6 (fun y=>ZI P ⟨d,op,t,ps,af,none⟩ (Lk (ZT ds vals (ZS i ⟨d,op,t,ps,af,none⟩) frJ)) H (Zu (fun x H'=>x=y/\H'=H) ⟨⟩)) (Zu (fun y=>hd P ds frJ H K (i+1) r (vals++ [y])) ⟨⟩):=Zk rfl rfl
@[go_sem ↓, go_sem] theorem ZnD {v:V} {B:V->Prop} {t} :T6 (fun y=>v=y) (Zu B t)=B v:=by simp [T6,Zu]
@[go_sem] theorem ZeP {l:List Edge} {g} :ZS i ⟨d,op,t,ps,List.toArray l,g⟩=(l.filter fun e=>Region.binds .any e&&decide (e.on<i)).map (·.on):=Zk rfl rfl
@[go_sem] theorem zH {on} :Region.binds .any ⟨on,.data⟩=true:=Zk rfl rfl
@[go_sem] theorem wF {on} :Region.binds .any ⟨on,.phase⟩=true:=Zk rfl rfl
@[go_sem] theorem wE {on} :Region.binds .any ⟨on,.chain⟩=true:=Zk rfl rfl
@[go_sem] theorem zJ {on k} :Region.binds .any ⟨on,.textOnly k⟩=false:=Zk rfl rfl
@[go_sem] theorem ZhA {on k} :Region.binds .any ⟨on,.gcOnly k⟩=false:=Zk rfl rfl
def FL (ds:List (Option Nat)) (vals:List V) (l:List Nat) (fr:List V) (a:Option (Option Nat)) (v:Option V):List V:=match a,v with
 | some (some d),some v=>ZT ds vals l (pt fr d v)
 | _,_=>ZT ds vals l fr
@[go_sem] theorem Zh9 {fr} :ZT ds vals [] fr=fr:=Zk rfl rfl
@[go_sem] theorem ZeZ {j l fr} :ZT ds vals (j::l) fr=FL ds vals l fr ds[j]? vals[j]? :=by rfl
@[go_sem] theorem Zan {l fr d v} :FL ds vals l fr (some (some d)) (some v)=ZT ds vals l (pt fr d v):=Zk rfl rfl
@[go_sem] theorem ZeT {d ds v vals fr} :hall (some d::ds) (v::vals) fr=hall ds vals (pt fr d v):=Zk rfl rfl
@[go_sem] theorem Zh3 {fr} :hall [] [] fr=fr:=Zk rfl rfl
@[go_sem] theorem ZeY {fr} :Z4 [] fr=fr:=Zk rfl rfl
@[go_sem] theorem Zam {d l fr} :Z4 (some d::l) fr=Z4 l (pt fr d .junk):=Zk rfl rfl
theorem Zo {f azs} {z:PV} {B:V->Prop} {t} (h:ACalls P f azs [] fun x H'=>x= .p z/\H'= []) (k:B (.p z)) (ha:Xn 0 azs=true:=by rfl) :
  T6 (fun y=>ACalls P f azs H (Zu (Zu (fun x H'=>x=y/\H'=H) ⟨⟩) ⟨⟩)) (Zu B t) :=
 ⟨.p z,h.use ⟨rfl,rfl⟩ ha,k⟩
end
section
variable {P : Program} {fr : List V} {H : List Obj} {k : V -> List Obj -> Prop} {d : Option Nat} {t : TypeId} {ps : String} {af : Array Edge} {g : Option (Nat × Bool)}
@[go_sem ↓] theorem yT {u n l} :ZI P ⟨d,.buildSlice u n (List.toArray l),t,ps,af,g⟩ fr H k=BE ((Ry (Um P u) H n (l.map fun x=>(x.1,ev fr x.2))).map .p) (Zu (fun v=>k v H) ⟨⟩):=by
 grind [ZI,BE,Zu]
@[go_sem] theorem xZ {S n l} :Ry (some S) H n l=if n=l.length/\n*S<=16777216/\0<S then (Ju H S 0 l).map (.list false) else none:=Zk rfl rfl
@[go_sem ↓] theorem vV {x} :ZI P ⟨d,.move x,t,ps,af,g⟩ fr H k=Zx P ⟨d,.move x,t,ps,af,g⟩ fr H k:=rfl
@[go_sem ↓] theorem oL {x} :ZI P ⟨d,.assign x,t,ps,af,g⟩ fr H k=Zx P ⟨d,.assign x,t,ps,af,g⟩ fr H k:=rfl
@[go_sem ↓] theorem vW {x y z} :ZI P ⟨d,.pick x y z,t,ps,af,g⟩ fr H k=Zx P ⟨d,.pick x y z,t,ps,af,g⟩ fr H k:=rfl
@[go_sem ↓] theorem pV {x} :ZI P ⟨d,.alloc x,t,ps,af,g⟩ fr H k=Zx P ⟨d,.alloc x,t,ps,af,g⟩ fr H k:=rfl
@[go_sem ↓] theorem yR {x y} :ZI P ⟨d,.box x y,t,ps,af,g⟩ fr H k=Zx P ⟨d,.box x y,t,ps,af,g⟩ fr H k:=rfl
@[go_sem ↓] theorem pX {x y} :ZI P ⟨d,.build x y,t,ps,af,g⟩ fr H k=Zx P ⟨d,.build x y,t,ps,af,g⟩ fr H k:=rfl
@[go_sem ↓] theorem vU {x y} :ZI P ⟨d,.load x y,t,ps,af,g⟩ fr H k=Zx P ⟨d,.load x y,t,ps,af,g⟩ fr H k:=rfl
@[go_sem ↓] theorem qB {x y z} :ZI P ⟨d,.store x y z,t,ps,af,g⟩ fr H k=Zx P ⟨d,.store x y z,t,ps,af,g⟩ fr H k:=rfl
@[go_sem ↓] theorem dK {x} :ZI P ⟨d,.nilCheck x,t,ps,af,g⟩ fr H k=Zx P ⟨d,.nilCheck x,t,ps,af,g⟩ fr H k:=rfl
@[go_sem ↓] theorem pW {x y z u v} :ZI P ⟨d,.binOp x y z u v,t,ps,af,g⟩ fr H k=Zx P ⟨d,.binOp x y z u v,t,ps,af,g⟩ fr H k:=rfl
@[go_sem ↓] theorem vX {x y z} :ZI P ⟨d,.unOp x y z,t,ps,af,g⟩ fr H k=Zx P ⟨d,.unOp x y z,t,ps,af,g⟩ fr H k:=rfl
@[go_sem ↓] theorem fJ {x y z} :ZI P ⟨d,.convert x y z,t,ps,af,g⟩ fr H k=Zx P ⟨d,.convert x y z,t,ps,af,g⟩ fr H k:=rfl
@[go_sem ↓] theorem dJ {x y z} :ZI P ⟨d,.makeFunc x y z,t,ps,af,g⟩ fr H k=Zx P ⟨d,.makeFunc x y z,t,ps,af,g⟩ fr H k:=rfl
@[go_sem ↓] theorem TD {x y z} :ZI P ⟨d,.makeSlice x y z,t,ps,af,g⟩ fr H k=Zx P ⟨d,.makeSlice x y z,t,ps,af,g⟩ fr H k:=rfl
@[go_sem ↓] theorem qA {x y z u v} :ZI P ⟨d,.slice x y z u v,t,ps,af,g⟩ fr H k=Zx P ⟨d,.slice x y z u v,t,ps,af,g⟩ fr H k:=rfl
@[go_sem ↓] theorem TB {x y z} :ZI P ⟨d,.fieldAddr x y z,t,ps,af,g⟩ fr H k=Zx P ⟨d,.fieldAddr x y z,t,ps,af,g⟩ fr H k:=rfl
@[go_sem ↓] theorem pY {x y z} :ZI P ⟨d,.field x y z,t,ps,af,g⟩ fr H k=Zx P ⟨d,.field x y z,t,ps,af,g⟩ fr H k:=rfl
@[go_sem ↓] theorem TC {x y z} :ZI P ⟨d,.indexAddr x y z,t,ps,af,g⟩ fr H k=Zx P ⟨d,.indexAddr x y z,t,ps,af,g⟩ fr H k:=rfl
@[go_sem ↓] theorem pZ {x y z} :ZI P ⟨d,.index x y z,t,ps,af,g⟩ fr H k=Zx P ⟨d,.index x y z,t,ps,af,g⟩ fr H k:=rfl
@[go_sem ↓] theorem fK {x y} :ZI P ⟨d,.extract x y,t,ps,af,g⟩ fr H k=Zx P ⟨d,.extract x y,t,ps,af,g⟩ fr H k:=rfl
@[go_sem ↓] theorem vT {x y z} :ZI P ⟨d,.call ⟨.value x,y,z⟩,t,ps,af,g⟩ fr H k=Zx P ⟨d,.call ⟨.value x,y,z⟩,t,ps,af,g⟩ fr H k:=rfl
@[go_sem ↓] theorem yS {y z} :ZI P ⟨d,.call ⟨.builtin .len,y,z⟩,t,ps,af,g⟩ fr H k=Zx P ⟨d,.call ⟨.builtin .len,y,z⟩,t,ps,af,g⟩ fr H k:=rfl
@[go_sem ↓] theorem yU {y z} :ZI P ⟨d,.call ⟨.builtin .max,y,z⟩,t,ps,af,g⟩ fr H k=Zx P ⟨d,.call ⟨.builtin .max,y,z⟩,t,ps,af,g⟩ fr H k:=rfl
@[go_sem ↓] theorem yV {y z} :ZI P ⟨d,.call ⟨.builtin .min,y,z⟩,t,ps,af,g⟩ fr H k=Zx P ⟨d,.call ⟨.builtin .min,y,z⟩,t,ps,af,g⟩ fr H k:=rfl
def R1 (P:Program) (H:List Obj) (t u:TypeId) (x y:V) (k:V->List Obj->Prop):Prop:= ∃S zs,WR P H t u x y=some (.sl H.length 0 zs.length zs.length,H++ [.elems S zs])/\k (.p (.list false zs)) H
@[go_sem ↓] theorem oK {x y u u2} :ZI P ⟨d,.call ⟨.builtin .append,#[x,y],#[u,u2]⟩,t,ps,af,g⟩ fr H k=R1 P H u u2 (ev fr x) (ev fr y) (Zu k ⟨⟩):=rfl
def Ty (F:Option (Nat×Nat)) (xs:List PV) (ys:Option (List PV)):Option PV:=match F,ys with
 | some (S,by'),some ys=>if AO S ys=true/\AO S xs=true/\(xs= []\/0<ys.length)/\(xs.length+ys.length)*by'<=140737488355328/\xs.length+ys.length<=140737488355328 then some (.list false (xs++ys)) else none
 | _,_=>none
@[go_sem] theorem Zeu {α:Type} {S b} {f:α->PV} {l:List α} {x:PV} (hb:(l.length+1)*b<=140737488355328) (hb2:l.length+1<=140737488355328):Ty (some (S,b)) (l.map f) (some [x])=if AO S [x]=true/\AO S (l.map f)=true then some (.list false (l.map f++ [x])) else none:=by
 grind [Ty]
theorem Po {u u2:TypeId} {F} {xs:List PV} {y:V} (hF:Qd P u=some F) {tt} :R1 P H u u2 (.p (.list true xs)) y (Zu k tt)=BE ((Ty (some F) xs (YB (P.underlying u2) H y)).map .p) (Zu (fun v=>k v H) ⟨⟩):=by
 obtain ⟨S,by'⟩:=F;obtain ⟨e,z,h1,h2,h3,h4,h6⟩:=Ff hF;have e1:YB (P.underlying u2) H y=GU P H u2 y:=Zk rfl rfl;rw [e1];unfold R1 Zu
 cases h5:GU P H u2 y with
 | none =>
  grind [WR,Ty,BE]
 | some ys =>
  rw [Iy h1 h2 h3 h4 h5 h6];simp only [Ty]
  by_cases hc:AO S ys=true
  ·rw [if_pos hc];simp only [hc,true_and]
   by_cases hd:AO S xs=true/\(xs= []\/0<ys.length)/\(xs.length+ys.length)*by'<=140737488355328/\xs.length+ys.length<=140737488355328
   ·rw [if_pos hd,if_pos hd];simp only [AB,BE,eq_iff_iff]
    constructor
    ·simp_all
    ·intro hk;exact ⟨S,xs++ys,Zb,hk⟩
   simp_all [if_neg,BE]
  ·simp [hc,BE]
theorem IP {o fr' H'} (h:fr=fr') (h2:H=H'):ZI P o fr H k=ZI P o fr' H' k:=by rw [h,h2]
end
attribute [congr] IP
attribute [go_sem] List.filter_cons List.filter_nil
end Go.AM
namespace Go.AM
open Go.RowKit
mutual
/-- no memory in it -/
def Px : PV->Bool
 | .list _ xs=>xs.isEmpty
 | .agg cs=>M5 cs
 | _=>true
def M5 : List PV->Bool
 | []=>true
 | x::l=>Px x&&M5 l
end
theorem Am : ∀ {l:List PV},M5 l=true-> ∀(j:Nat) (x:PV),l[j]? =some x->Px x=true
 | [],_,j,x,h=>by simp at h
 | y::l,hh,j,x,h=>by
  simp [M5] at hh
  cases j with
  | zero=>simp at h;subst h;exact hh.1
  | succ j=>exact Am hh.2 j x (by simpa using h)
theorem RP.anywhere {X X':Nat->Prop} {w w' x v} (h:RP X w x v) (hf:Px x=true):RP X' w' x v:=by
 induction h with
 | int k n=>exact .int k n
 | bool b=>exact .bool b
 | str s=>exact .str s
 | nilp=>exact .nilp
 | nili=>exact .nili
 | nilf=>exact .nilf
 | nilm=>exact .nilm
 | fn f=>exact .fn f
 | nils cl=>exact .nils cl
 | emp cl a cap hc hm ha=>exact .emp cl a cap hc hm ha
 | list cl xs b off cap S u hX hb hc hm hcl hS hu hr ih =>
  have:xs= []:=by grind [Px]
  subst this;exact .emp cl _ cap (fun h=>by grind) hm (fun _ x hx=>by grind)
 | agg cs a hs _ ih=>exact .agg cs a hs fun j c hj=>ih j c hj (Am (by grind [Px]) j c hj)
def vw (H:List Obj):V->Option V
 | .p x=>some (.p x)
 | .fn f [] []=>some (.fn f [] [])
 | .sl o off len tot=>match oat H o with
  | .elems _ xs=>if xs.length=tot/\off+len<=tot then some (.p (.list false ((xs.take (off+len)).drop off))) else none
  | _=>none
 | _=>none
def vws (H:List Obj):List V->Option (List V)
 | []=>some []
 | x::l=>match vw H x,vws H l with | some y,some ys=>some (y::ys) | _,_=>none
abbrev A5 : Nat->Prop:=fun _=>False
theorem CT {b:Nat} : ¬Own A5 [] b:=by simp [Own]
theorem ZjZ {F H ι w x v y} (hr:Rel F H ι w) (h:RV F H ι w x v) (hy:vw H x=some y):RV A5 [] [] w y v:=by
 unfold vw at hy
 split at hy
 ·simp at hy;subst hy
  cases h with | p _ _ h=>exact .p _ _ (h.weaker fun b hb=>absurd hb CT)
 ·simp at hy;subst hy;generalize v=u at h
  cases h with
  | fn _ _ _ a e hs ht _ _=>exact .fn _ [] [] a e hs ht (fun j c hj=>by simp at hj) (fun j c hj=>by simp at hj)
 ·rename_i o off len tot
  split at hy
  ·rename_i S xs ho
   split at hy
   ·rename_i hc;simp at hy;subst hy;exact .p _ _ (BI _ (fun b _ hb=>CT hb) (fun b _ hs=>⟨CT,hs,rfl⟩) hr (Xx ho Zb) hc.1 hc.2 h)
   ·cases hy
  ·cases hy
 ·cases hy
theorem Te {H} : ∀ {l l':List V},vws H l=some l'->l'.length=l.length/\ ∀(j:Nat) (y:V),l'[j]? =some y-> ∃x,l[j]? =some x/\vw H x=some y
 | [],l',h=>by simp [vws] at h;grind
 | x::l,l',h=>by
  simp only [vws] at h
  split at h
  ·rename_i y ys h1 h2;simp at h;subst h;obtain ⟨e,hg⟩:=Te h2;refine ⟨by simp [e],fun j z hj=> ?_⟩
   cases j with
   | zero=>simp at hj;subst hj;exact ⟨x,Zb,h1⟩
   | succ j=>obtain ⟨q,q1,q2⟩:=hg j z (by simpa using hj);exact ⟨q,by simpa using q1,q2⟩
  ·cases h
theorem Good.lift {F H ι w H1 ι1 w'} (hr:Rel F H ι w) (g:Good A5 [] [] w H1 ι1 w') (h1: ∀(o:Nat) (ob:Obj),H1[o]? =some ob-> ∃S xs,ob= .elems S xs/\M5 xs=true):Good (Own F ι) [] [] w H1 ι1 w':=by
 have hnew: ∀b,some b∈ι1-> ¬b<w.heap.size:=fun b hb hlt=>g.own b hlt Zb hb
 have hold: ∀b,Own F ι b->b<w.heap.size:=fun b hb=>by
  rcases hb with hb | hb
  ·exact hr.fin b hb
  ·obtain ⟨i,hi⟩:=Xf.1 hb;exact (hr.avo i b hi).2
 refine Good.up hr.env.fresh ⟨⟨g.rel.len,fun b hb=>by have:=hold b hb;have:=g.size;omega,g.rel.inj,fun i b hi=> ?_,fun o cs ho=> ?_,fun o S xs ho=> ?_,fun o es ho=>(by grind),fun o T E r bs ho=>(by grind)⟩,g.os,g.tape,g.output,g.shape,g.size,g.keep,g.own,g.hx⟩
 ·refine ⟨fun hb=>hnew b (XB hi) (hold b hb),(g.rel.avo i b hi).2⟩
 ·grind
 ·rcases g.rel.elm o S xs ho with e | ⟨b,c,t,cap,e1,e2,e3,e4,e5,e6,e7⟩
  ·exact .inl e
  ·refine .inr ⟨b,c,t,cap,e1,e2,e3,e4,e5,e6,fun i x j y hi hj=> ?_⟩;obtain ⟨S',xs',e,hf⟩:=h1 o _ ho;simp at e;obtain ⟨rfl,rfl⟩:=e;have hx:=Am hf i x hi;refine (e7 i x j y hi hj).anywhere ?_
   cases x<;>simp only [PV.cells] at hj
   case agg cs=>grind [Am,Px]
   all_goals (cases j with
    | zero=>simp at hj;subst hj;exact hx
    | succ j=>simp at hj)
theorem Ge {w:World} (he:Env A5 [] w):Rel A5 [] [] w:=⟨⟨rfl,fun b hb=>hb.elim,fun i j b hi=>by simp at hi,fun i b hi=>by simp at hi,fun o cs ho=>by simp at ho,fun o S xs ho=>by simp at ho,fun o es ho=>by simp at ho,fun o T E r bs ho=>by simp at ho⟩,he⟩
theorem ACalls.view {P g args args'} {y:PV} {H:List Obj} {K:V->List Obj->Prop} (h:ACalls P g args' [] fun x H'=>x= .p y/\H'= []) (hv:vws H args=some args') (hy:Px y=true) (k:K (.p y) H):ACalls P g args H K:=by
 refine ⟨h.1,fun F ι w vs hr hvs=> ?_⟩;obtain ⟨e,hg⟩:=Te hv;refine (h.2 A5 [] w vs (Ge hr.env.noth) ⟨by rw [hvs.1,e],fun j c hj=> ?_⟩).mono ?_
 ·obtain ⟨x,h1,h2⟩:=hg j c hj;exact ZjZ hr (hvs.2 j x h1) h2
 ·rintro e w' ⟨x,H',ι',v,rfl,⟨rfl,rfl⟩,gd,rv⟩;have g2:=(gd.lift hr (fun o ob ho=>by simp at ho)).behind hr;have hι:ι'= []:=YC gd.rel.len;subst hι;simp only [Zn,Y8] at g2
  cases rv with | p _ _ rp =>
  exact ⟨_,H,ι,v,rfl,k,g2,.p _ _ (rp.anywhere hy)⟩
def rd1 (H:List Obj):V->Option PV
 | .p x=>some x
 | .sl o off len tot=>match oat H o with
  | .elems _ xs=>if xs.length=tot/\off+len<=tot then some (.list false ((xs.take (off+len)).drop off)) else none
  | _=>none
 | _=>none
def rds (H:List Obj):List V->Option (List PV)
 | []=>some []
 | x::l=>match rd1 H x,rds H l with | some y,some ys=>some (y::ys) | _,_=>none
def rd (H:List Obj):V->Option PV
 | .agg cs=>(rds H cs).map .agg
 | x=>rd1 H x
@[go_sem] theorem Zlr {o off len tot r} :QB (.sl o off len tot::r)=none:=Zk rfl rfl
attribute [go_sem] Option.map_none
end Go.AM
namespace Go.Proofs.YtenjikkmmibffaaGreatDoor.K
open Go Go.AM
def Ed (be:List (Int×Int)) (a b:Nat):Prop:= ∃p∈be,p.1=(a:Int)/\p.2=(b:Int)
inductive Ch (be:List (Int×Int)):Nat->Nat->Prop where
 | one {a b} (h:Ed be a b):Ch be a b
 | more {a b c} (h:Ch be a b) (k:Ed be b c):Ch be a c
def Val (n:Nat) (be:List (Int×Int)):Prop:= ∀p∈be,0<=p.1/\p.1<n/\0<=p.2/\p.2<n
def Ep (out:List Nat) (p:Int×Int):List Nat:=out.set p.2.toNat (nth out p.2.toNat|||nth out p.1.toNat|||pw p.1.toNat)
def ET (out:List Nat) (be:List (Int×Int)):List Nat:=be.foldl Ep out
structure Snd (n:Nat) (be:List (Int×Int)) (out:List Nat):Prop where
 len:out.length=n
 lt: ∀b,b<n->nth out b<pw n
 snd: ∀a b,b<n->(nth out b).testBit a=true->Ch be a b
structure Clo (n:Nat) (be:List (Int×Int)) (out:List Nat):Prop extends Snd n be out where
 cmp: ∀a b,Ch be a b->(nth out b).testBit a=true
theorem EP (l:List Nat) (i j v:Nat) (h:j<l.length):nth (l.set i v) j=if i=j then v else nth l j:=by
 grind [nth]
theorem Snd.zero (n be):Snd n be (List.replicate n 0):=by
 refine ⟨Zb,fun b hb=> ?_,fun a b hb h=> ?_⟩
 ·grind [Zh,Ga]
 grind [Zh]
theorem Kh (a b:Nat):(pw a).testBit b=decide (a=b):=by grind [pw]
theorem Snd.step {n be out} (hv:Val n be) (hs:Snd n be out) {p} (hp:p∈be):Snd n be (Ep out p):=by
 obtain ⟨h1,h2,h3,h4⟩:=hv p hp;refine ⟨by simp [Ep,hs.len],fun b hb=> ?_,fun a b hb h=> ?_⟩
 ·rw [Ep,EP _ _ _ _ (by rw [hs.len];exact hb)]
  split
  ·have e1:=hs.lt p.2.toNat Za;have e2:=hs.lt p.1.toNat Za
   have e3:pw p.1.toNat<pw n:=by
    have:=EV p.1.toNat;have h5:pw (p.1.toNat+1)<=pw n:=Ko Za;omega
   exact Jb (Jb e1 e2) e3
  ·exact hs.lt b hb
 ·rw [Ep,EP _ _ _ _ (by rw [hs.len];exact hb)] at h
  split at h
  ·rename_i hb2;have hE:Ed be p.1.toNat b:=⟨p,hp,Za,Za⟩;simp only [AD,W1] at h;rcases h with (h | h) | h
   ·exact hs.snd a b hb (by grind)
   ·exact (hs.snd a _ Za h).more hE
   ·rw [Kh] at h;simp at h;subst h;exact .one hE
  ·exact hs.snd a b hb h
theorem Snd.rnd {n be out} (hv:Val n be) (hs:Snd n be out): ∀(l:List (Int×Int)),(∀p∈l,p∈be)->Snd n be (ET out l):=by
 intro l
 induction l generalizing out with
 | nil=>intro _;exact hs
 | cons p l ih=>intro h;exact ih (hs.step hv (h p Zb)) fun q hq=>h q (by simp [hq])
theorem wX (x y:Nat):x<=x|||y:=Nat.left_le_or
def tot (l:List Nat):Nat:=l.foldr (· + ·) 0
theorem S9 : ∀(l:List Nat) (i v:Nat),i<l.length->tot (l.set i v)+nth l i=tot l+v
 | [],i,v,h=>by simp at h
 | x::l,0,v,h=>by simp [tot,nth];omega
 | x::l,i+1,v,h=>by
  have:=S9 l i v (by simpa using h);simp only [Z1,tot,List.foldr_cons,nth,List.getD_cons_succ] at this ⊢;omega
theorem nU : ∀(l:List Nat) (m:Nat),(∀i,i<l.length->nth l i<m)->tot l<=l.length*m
 | [],m,h=>by simp [tot]
 | x::l,m,h=>by
  have h0:=h 0 Zb
  have:=nU l m fun i hi=>by have:=h (i+1) (by grind);grind [nth]
  grind [tot,XJ,nth]
theorem RS (out:List Nat) (p:Int×Int) (h:p.2.toNat<out.length):tot out<=tot (Ep out p)/\(tot (Ep out p)=tot out->Ep out p=out):=by
 have e:=S9 out p.2.toNat (nth out p.2.toNat|||nth out p.1.toNat|||pw p.1.toNat) h;have h1:nth out p.2.toNat<=nth out p.2.toNat|||nth out p.1.toNat|||pw p.1.toNat:=AG (wX _ _) (wX _ _);refine ⟨by rw [Ep];omega,fun he=> ?_⟩;rw [Ep] at he ⊢
 have:nth out p.2.toNat|||nth out p.1.toNat|||pw p.1.toNat=nth out p.2.toNat:=Za
 simp_all [Zh]
theorem PU (out l m):ET out (l++m)=ET (ET out l) m:=by grind [ET]
theorem CU {n be} (hv:Val n be): ∀(l:List (Int×Int)) (out:List Nat),(∀p∈l,p∈be)->Snd n be out->tot out<=tot (ET out l)/\(tot (ET out l)=tot out->ET out l=out/\ ∀p∈l,Ep out p=out)
 | [],out,_,_=>⟨ZB _,fun _=>⟨rfl,fun p hp=>by simp at hp⟩⟩
 | p::l,out,hl,hs=>by
  obtain ⟨h1,h2,h3,h4⟩:=hv p (hl p Zb);have c:=RS out p (by rw [hs.len];omega);have r:=CU hv l (Ep out p) (fun q hq=>hl q (by simp [hq])) (hs.step hv (hl p Zb));refine ⟨AG c.1 r.1,fun e=> ?_⟩;have e:tot (ET (Ep out p) l)=tot out:=e
  have e1:tot (Ep out p)=tot out:=Za
  have e2:=c.2 e1
  have e3:tot (ET (Ep out p) l)=tot (Ep out p):=Za
  obtain ⟨e4,e5⟩:=r.2 e3;rw [e2] at e4 e5;refine ⟨by grind [ET],fun q hq=> ?_⟩
  grind
theorem Snd.clo {n be out} (hv:Val n be) (hs:Snd n be out) (h:tot (ET out be)=tot out):Clo n be out:=by
 have hc:=((CU hv be out (fun _ h=>h) hs).2 h).2
 have key: ∀p∈be,∀a,(a=p.1.toNat\/(nth out p.1.toNat).testBit a=true)->(nth out p.2.toNat).testBit a=true:=fun p hp a ha=>by
  obtain ⟨h1,h2,h3,h4⟩:=hv p hp;have e:=hc p hp
  have e2:nth (Ep out p) p.2.toNat=nth out p.2.toNat:=by rw [e]
  rw [Ep,EP _ _ _ _ (by rw [hs.len];omega)] at e2;simp only [if_true] at e2;rw [<- e2];simp only [AD,W1,Kh,Zs]
  grind
 refine ⟨hs,fun a b hab=> ?_⟩
 induction hab with
 | one h =>
  obtain ⟨p,hp,e1,e2⟩:=h;have:=key p hp p.1.toNat (.inl rfl)
  grind
 | more _ h ih =>
  obtain ⟨p,hp,e1,e2⟩:=h;have:=key p hp _ (.inr (by rw [e1];exact ih))
  grind
theorem Clo.uniq {n be out out'} (hv:Val n be) (h:Clo n be out) (h':Clo n be out'):out=out':=by
 apply Jc (by rw [h.len,h'.len]);intro b h1 h2;rw [<- Zh h1,<- Zh h2];apply CE;intro a;rw [Wp];rw [h.len] at h1;exact ⟨fun e=>h'.cmp a b (h.snd a b h1 e),fun e=>h.cmp a b (h'.snd a b h1 e)⟩
theorem Snd.bound {n be out} (hs:Snd n be out):tot out<=n*pw n:=by
 have:=nU out (pw n) fun i hi=>hs.lt i (by rw [<- hs.len];exact hi);rwa [hs.len] at this
theorem gQ {n be} (hv:Val n be): ∀(k:Nat) (out:List Nat),Snd n be out->n*pw n-tot out<k-> ∃out',Clo n be out'
 | 0,out,_,h=>Za
 | k+1,out,hs,h=>by
  by_cases he:tot (ET out be)=tot out
  ·exact ⟨out,hs.clo hv he⟩
  ·have hp:=hs.rnd hv be fun _ h=>h;have:=hp.bound;have:=(CU hv be out (fun _ h=>h) hs).1;exact gQ hv k (ET out be) hp Za
noncomputable def Kk (n:Nat) (be:List (Int×Int)):List Nat:=open Classical in if h: ∃out,Clo n be out then h.choose else []
theorem Fs {n be} (hv:Val n be):Clo n be (Kk n be):=by
 have h:=gQ hv _ (List.replicate n 0) (Snd.zero n be) (Nat.lt_succ_self _);rw [Kk,dif_pos h]
 grind
theorem gP {n be out} (hv:Val n be) (h:Clo n be out):Kk n be=out:=(Fs hv).uniq hv h
theorem U6 {n be} (hv:Val n be) (a b:Nat) (hb:b<n):(nth (Kk n be) b).testBit a=true↔Ch be a b :=
 ⟨(Fs hv).snd a b hb,(Fs hv).cmp a b⟩
end Go.Proofs.YtenjikkmmibffaaGreatDoor.K
