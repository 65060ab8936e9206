/- Declarations that the closing texts need, part 4: joined by tools/slim.py. -/
import Derived.Test.YtjkkdmeebhjaiaaGreatDoorI3
set_option linter.unusedVariables false
set_option linter.unusedSimpArgs false
universe u
namespace Go.AM
open Go.RowKit
structure Tk {α:Sort u} (a:α):Type where
def Zq {α:Sort u} (a:α) (_:Tk a):α:=a
@[go_sem] theorem Za7 {α β:Type} {f:α->β} {t x} :Zq f t x=f x:=Zi rfl rfl
@[go_sem ↓] theorem Za8 {α β:Type} {f:α->β->Prop} {t x y} :Zq f t x y=f x y:=Zi rfl rfl
@[go_sem ↓] theorem Za9 {α β γ:Type} {f:α->β->γ->Prop} {t x y z} :Zq f t x y z=f x y z:=Zi rfl rfl
def Ak (x:Option V) (K:V->Prop):Prop:=match x with | some v=>K v | none=>False
def KX (x:Option (V×List Obj)) (K:V->List Obj->Prop):Prop:=match x with | some (v,H)=>K v H | none=>False
def bst (x:V) (K:Bool->Prop):Prop:=match x with | .p (.bool b)=>K b | _=>False
def hst (x:Option (List Obj)) (K:List Obj->Prop):Prop:=match x with | some H=>K H | none=>False
@[go_sem ↓, go_sem] theorem ZfF {v K} :Ak (some v) K=K v:=Zi rfl rfl
@[go_sem ↓, go_sem] theorem Zfk {v H K} :KX (some (v,H)) K=K v H:=Zi rfl rfl
@[go_sem ↓, go_sem] theorem Zef {H K} :hst (some H) K=K H:=Zi rfl rfl
@[congr] theorem Zbq {x x' K} (h:x=x'):Ak x K=Ak x' K:=by rw [h]
@[congr] theorem Zbj {x x' K} (h:x=x'):KX x K=KX x' K:=by rw [h]
@[congr] theorem Zbc {x x' K} (h:x=x'):hst x K=hst x' K:=by rw [h]
def Mp (fr:List V):List V:=fr
@[go_sem] theorem Zjk {fr} :Mp fr=fr:=Zi rfl rfl
section code
variable {cuts : List Nat} {P : Program} {fr : List V} {H : List Obj} {Q : Exit -> List V -> List Obj -> Prop}
@[go_sem ↓] theorem ZaV : QP cuts P .skip fr H Q=Q .normal fr H:=Zi rfl rfl
@[go_sem ↓] theorem oW {id} {l:List Oper} :QP cuts P (.region id l.toArray false) fr H Q=Yv P (l.map (·.dst)) l (Mp fr) H (Zq (Q .normal) ⟨⟩):=by rfl
@[go_sem ↓] theorem rU {id ops} :QP cuts P (.region id ops true) fr H Q=AWP P (.region id (Zq ops ⟨⟩) true) fr H (Zq Q ⟨⟩):=by rfl
@[go_sem ↓] theorem ZdC {x y} :QP [] P (.seq x y) fr H Q=QP [] P x fr H (UT (fun fr H=>QP [] P y fr H Q) Q):=by
 grind [QP]
def fF (b:Bool) (A B:Prop):Prop:=if b then A else B
def IN (cuts:List Nat):Option Nat->Bool
 | some i=>cuts.contains i
 | none=>false
@[go_sem ↓] theorem ZaU {k x y} :QP (k::cuts) P (.seq x y) fr H Q=fF (IN (k::cuts) (Lb x)) (Zq (AWP P (.seq (Zq x ⟨⟩) (Zq y ⟨⟩)) fr H (Zq Q ⟨⟩)) ⟨⟩) (Zq (QP (k::cuts) P x fr H (UT (fun fr H=>QP (k::cuts) P y fr H Q) Q)) ⟨⟩):=by
 rfl
@[go_sem ↓, go_sem] theorem Zbs {A B:Prop} {t} :fF true (Zq A t) B=A:=by rfl
@[go_sem ↓, go_sem] theorem yN {A B:Prop} {t} :fF false A (Zq B t)=B:=by rfl
theorem NH {b b' A B} (h:b=b'):fF b A B=fF b' A B:=by rw [h]
@[go_sem ↓] theorem sV {id ops d} :Lb (.region id ops d)=some id:=Zi rfl rfl
@[go_sem ↓] theorem ZhD {x y} :Lb (.seq x y)=Lb x:=Zi rfl rfl
@[go_sem ↓] theorem Za6 {id c} :Lb (.block id c)=Lb c:=Zi rfl rfl
@[go_sem ↓] theorem Zea {c x y} :Lb (.cond c x y)=none:=Zi rfl rfl
@[go_sem ↓] theorem Zec {c} :Lb (.loop c)=none:=Zi rfl rfl
@[go_sem] theorem sK : IN cuts none=false:=Zi rfl rfl
@[go_sem] theorem Za0 {i} :IN [] (some i)=false:=Zi rfl rfl
@[go_sem] theorem sJ {k i} :IN (k::cuts) (some i)=(decide (i=k)||IN cuts (some i)):=by rfl
@[go_sem ↓] theorem ZaQ {c x y} :QP cuts P (.cond c x y) fr H Q=VQ (ev fr c) (Zq (QP cuts P x fr H Q) ⟨⟩) (Zq (QP cuts P y fr H Q) ⟨⟩):=Zi rfl rfl
@[go_sem ↓] theorem rT {id c} :QP cuts P (.block id c) fr H Q=QP cuts P c fr H (UZ id Q):=Zi rfl rfl
@[go_sem ↓] theorem ZaR {id} :QP cuts P (.exit id) fr H Q=Q (.exit id) fr H:=Zi rfl rfl
@[go_sem ↓] theorem ZdB : QP cuts P .ret fr H Q=Q .ret fr H:=Zi rfl rfl
@[go_sem ↓] theorem ZaT {c} :QP cuts P (.loop c) fr H Q=AWP P (.loop (Zq c ⟨⟩)) fr H (Zq Q ⟨⟩):=Zi rfl rfl
@[go_sem ↓] theorem ZaS {c t} :QP cuts P (Zq c t) fr H Q=QP cuts P c fr H Q:=Zi rfl rfl
theorem P3 {c fr' H'} (h:fr=fr') (h2:H=H'):QP cuts P c fr H Q=QP cuts P c fr' H' Q:=by rw [h,h2]
theorem PE {c fr' H'} (h:fr=fr') (h2:H=H'):AWP P c fr H Q=AWP P c fr' H' Q:=by rw [h,h2]
@[go_sem ↓] theorem nQ {A:List V->List Obj->Prop} :UT A Q .normal fr H=A fr H:=Zi rfl rfl
@[go_sem ↓] theorem yW {A:List V->List Obj->Prop} {id} :UT A Q (.exit id) fr H=Q (.exit id) fr H:=Zi rfl rfl
@[go_sem ↓] theorem Zcs {A:List V->List Obj->Prop} :UT A Q .ret fr H=Q .ret fr H:=Zi rfl rfl
@[go_sem ↓] theorem gU {id} :UZ id Q .normal fr H=Q .normal fr H:=Zi rfl rfl
@[go_sem ↓] theorem rX {id} :UZ id Q .ret fr H=Q .ret fr H:=Zi rfl rfl
@[go_sem ↓] theorem oZ {id id'} :UZ id Q (.exit id') fr H=if id'=id then Q .normal fr H else Q (.exit id') fr H:=Zi rfl rfl
theorem Mb {A:List V->List Obj->Prop} {e fr' H'} (h:fr=fr') (h2:H=H'):UT A Q e fr H=UT A Q e fr' H':=by rw [h,h2]
theorem G9 {id e fr' H'} (h:fr=fr') (h2:H=H'):UZ id Q e fr H=UZ id Q e fr' H':=by rw [h,h2]
@[go_sem ↓] theorem pY {rs} {Q:V->List Obj->Prop} :An P rs Q .normal fr H=KX ((Y4 P fr H rs).map fun xs=>(Qg xs,H)) (Zq Q ⟨⟩):=by
 simp only [An,Zq];grind [KX]
@[go_sem ↓] theorem ZfJ {rs} {Q:V->List Obj->Prop} :An P rs Q .ret fr H=KX ((Y4 P fr H rs).map fun xs=>(Qg xs,H)) (Zq Q ⟨⟩):=by
 simp only [An,Zq];grind [KX]
theorem ND {rs e fr' H'} {Q:V->List Obj->Prop} (h:fr=fr') (h2:H=H'):An P rs Q e fr H=An P rs Q e fr' H':=by rw [h,h2]
@[go_sem] theorem yI : Y4 P fr H []=some []:=Zi rfl rfl
@[go_sem] theorem yJ {t l} :Y4 P fr H (.tmp t::l)=(Y4 P fr H l).map (gt fr t:: ·):=by
 simp only [Y4,Sn];cases Y4 P fr H l<;>rfl
@[go_sem] theorem pW {a t l} :Y4 P fr H (.cell a t::l)=(Ql P H t (gt fr a)).bind fun x=>(Y4 P fr H l).map (x:: ·):=by
 simp only [Y4,Sn];cases Ql P H t (gt fr a)<;>cases Y4 P fr H l<;>rfl
@[go_sem] theorem yK {x} :Qg [x]=x:=Zi rfl rfl
@[go_sem] theorem pX : Qg []= .tup []:=Zi rfl rfl
@[go_sem] theorem NC {x y l} :Qg (x::y::l)= .tup (x::y::l):=Zi rfl rfl
end code
attribute [congr] NH P3 PE Mb G9 ND
@[go_sem] theorem ZhB {x:V} {l} :gt (x::l) 0=x:=Zi rfl rfl
@[go_sem] theorem ZhA {x:V} {l n} :gt (x::l) (n+1)=gt l n:=Zi rfl rfl
@[go_sem] theorem Zjh {n} :gt [] n= .junk:=Zi rfl rfl
@[go_sem] theorem ZhX {x v:V} {l} :pt (x::l) 0 v=v::l:=Zi rfl rfl
@[go_sem] theorem ZhW {x v:V} {l n} :pt (x::l) (n+1) v=x::pt l n v:=Zi rfl rfl
@[go_sem] theorem ZfH {fr d v} :Uy fr (some d) v=pt fr d v:=Zi rfl rfl
@[go_sem] theorem ZfG {fr v} :Uy fr none v=fr:=Zi rfl rfl
@[go_sem] theorem Zfp {x:Obj} {l} :oat (x::l) 0=x:=Zi rfl rfl
@[go_sem] theorem Zfo {x:Obj} {l n} :oat (x::l) (n+1)=oat l n:=Zi rfl rfl
@[go_sem] theorem ZfA {x v:Obj} {l} :ED (x::l) 0 v=v::l:=Zi rfl rfl
@[go_sem] theorem Zfz {x v:Obj} {l n} :ED (x::l) (n+1) v=x::ED l n v:=Zi rfl rfl
@[go_sem] theorem Zhq {fr t} :evx fr (.tmp t)=gt fr t:=Zi rfl rfl
@[go_sem] theorem sP {fr g} :evx fr (.global g)=bA g:=Zi rfl rfl
@[go_sem] theorem Zi6 {fr t} :ev fr (.tmp t)=gt fr t:=Zi rfl rfl
@[go_sem] theorem Zhn {fr f} :ev fr (.func f)= .fn (.func f) [] []:=Zi rfl rfl
@[go_sem] theorem Zi4 {fr k n} :ev fr (.const (.int k n))= .p (.int k n):=Zi rfl rfl
@[go_sem] theorem Zhm {fr b} :ev fr (.const (.bool b))= .p (.bool b):=Zi rfl rfl
@[go_sem] theorem Zi5 {fr s} :ev fr (.const (.string s))= .p (.str s.data.toList):=Zi rfl rfl
@[go_sem] theorem Zhp {fr} :ev fr (.const (.slice none 0 0))= .p (.list true []):=Zi rfl rfl
@[go_sem] theorem Zho {fr} :ev fr (.const (.pointer none))= .p .nilp:=Zi rfl rfl
@[go_sem] theorem Zi3 {fr l} :ev fr (.const (.agg (List.toArray l)))=match sL l with | some xs=> .p (.agg xs) | none=> .junk:=Zi rfl rfl
@[go_sem] theorem Zd4 {fr d} {l:List (Option Nat)} :Ea fr (some d::l) 0=gt fr d:=by simp [Ea]
@[go_sem] theorem Zd3 {fr o n} {l:List (Option Nat)} :Ea fr (o::l) (n+1)=Ea fr l n:=by simp [Ea]
section ops
variable {P : Program} {fr : List V} {H : List Obj} {ds : List (Option Nat)} {K : List V -> List Obj -> Prop} {r : List Oper} {d : Option Nat} {t : TypeId} {ps : String} {af : Array Edge} {g : Option (Nat × Bool)} {k : V -> List Obj -> Prop}
theorem MD {l fr' H'} (h:fr=fr') (h2:H=H'):Yv P ds l fr H K=Yv P ds l fr' H' K:=by rw [h,h2]
theorem IB {o fr' H'} (h:fr=fr') (h2:H=H'):Zv P o fr H k=Zv P o fr' H' k:=by rw [h,h2]
@[go_sem ↓] theorem Zdq : Yv P ds [] fr H K=K fr H:=Zi rfl rfl
@[go_sem] theorem ZaA {op} :Yv P ds (⟨d,op,t,ps,af,none⟩::r) fr H K=Zv P ⟨d,op,t,ps,af,none⟩ fr H (Zq (fun x H'=>Yv P ds r (Uy fr d x) H' K) ⟨⟩):=Zi rfl rfl
@[go_sem] theorem qU {op j b} :Yv P ds (⟨d,op,t,ps,af,some (j,b)⟩::r) fr H K=Xv (Ea fr ds j) b (Zq (Zv P ⟨d,op,t,ps,af,none⟩ fr H (Zq (fun x H'=>Yv P ds r (Uy fr d x) H' K) ⟨⟩)) ⟨⟩) (Zq (Yv P ds r (Uy fr d (.tup [])) H K) ⟨⟩):=by
 rfl
theorem Xw {op:Op} (h:Y2 op=none) (h2:Wt P op fr H=none):Zv P ⟨d,op,t,ps,af,g⟩ fr H k=Ak (Z8 P op fr H) fun x=>k x H:=by
 simp only [Zv,h,Iu,h2]
 all_goals (cases Z8 P op fr H<;>rfl)
theorem P1 {op:Op} (h:Y2 op=none) (h2:Z8 P op fr H=none):Zv P ⟨d,op,t,ps,af,g⟩ fr H k=KX (Wt P op fr H) k:=by
 grind [Zv,Iu,KX]
@[go_sem ↓] theorem rO {x} :Zv P ⟨d,.move x,t,ps,af,g⟩ fr H k=k (ev fr x) H:=by rfl
@[go_sem ↓] theorem jD {x} :Zv P ⟨d,.assign x,t,ps,af,g⟩ fr H k=k (ev fr x) H:=by rfl
def vif (b:Bool) (x y:V):V:=if b then x else y
@[go_sem] theorem ZgC {x y} :vif true x y=x:=Zi rfl rfl
@[go_sem] theorem Zcu {x y} :vif false x y=y:=Zi rfl rfl
@[go_sem] theorem ZgB {b x y} :vif b (.p (.bool x)) (.p (.bool y))= .p (.bool (if b then x else y)):=by cases b<;>rfl
@[go_sem] theorem Zdv {b} :rE (.p (.bool b))=some b:=Zi rfl rfl
@[go_sem ↓] theorem rQ {c x y} :Zv P ⟨d,.pick c x y,t,ps,af,g⟩ fr H k=Ak ((rE (ev fr c)).map fun b=>vif b (ev fr x) (ev fr y)) (Zq (fun v=>k v H) ⟨⟩):=by
 rw [Xw rfl rfl];simp only [Z8,XT]
 cases rE (ev fr c)<;>rfl
@[go_sem ↓] theorem rN {u x} :Zv P ⟨d,.load u x,t,ps,af,g⟩ fr H k=Ak (Ql P H u (ev fr x)) (Zq (fun v=>k v H) ⟨⟩):=by rw [Xw rfl rfl];rfl
@[go_sem ↓] theorem Tt {x} :Zv P ⟨d,.nilCheck x,t,ps,af,g⟩ fr H k=Ak (if Y5 H (ev fr x)||bL (ev fr x) then some (ev fr x) else none) (Zq (fun v=>k v H) ⟨⟩):=by rw [Xw rfl rfl];rfl
@[go_sem ↓] theorem ZaJ {op u x y u2} :Zv P ⟨d,.binOp op u x y u2,t,ps,af,g⟩ fr H k=Ak ((X9 P op u (ev fr x) (ev fr y)).map .p) (Zq (fun v=>k v H) ⟨⟩):=by rw [Xw rfl rfl];rfl
@[go_sem ↓] theorem Zdz {op u x} :Zv P ⟨d,.unOp op u x,t,ps,af,g⟩ fr H k=Ak ((aun op (ev fr x)).map .p) (Zq (fun v=>k v H) ⟨⟩):=by rw [Xw rfl rfl];rfl
def cQ (x y:Option PV):Option PV:=match x with | some z=>some z | none=>y
@[go_sem] theorem xQ {z y} :cQ (some z) y=some z:=Zi rfl rfl
@[go_sem] theorem xP {y} :cQ none y=y:=Zi rfl rfl
@[go_sem ↓] theorem rM {s u x} :Zv P ⟨d,.convert s u x,t,ps,af,g⟩ fr H k=Ak ((cQ (BS P H s u (ev fr x)) (Im P s u (ev fr x))).map .p) (Zq (fun v=>k v H) ⟨⟩):=by
 rw [Xw rfl rfl];simp only [Z8,XT]
 cases BS P H s u (ev fr x)<;>rfl
@[go_sem ↓] theorem Ts {f cs es} :Zv P ⟨d,.makeFunc f (List.toArray cs) (List.toArray es),t,ps,af,g⟩ fr H k=k (.fn f (cs.map (ev fr)) (es.map (ev fr))) H:=by rfl
@[go_sem ↓] theorem oU {u x lo hi mx} :Zv P ⟨d,.slice u x lo hi mx,t,ps,af,g⟩ fr H k=Ak (Wz P H u fr (ev fr x) lo hi mx) (Zq (fun v=>k v H) ⟨⟩):=by rw [Xw rfl rfl];rfl
@[go_sem ↓] theorem SN {s x f} :Zv P ⟨d,.fieldAddr s x f,t,ps,af,g⟩ fr H k=Ak (QL P H s f (ev fr x)) (Zq (fun v=>k v H) ⟨⟩):=by rw [Xw rfl rfl];rfl
@[go_sem ↓] theorem SO {u x i} :Zv P ⟨d,.indexAddr u x i,t,ps,af,g⟩ fr H k=Ak (UW P H u (evx fr x) (ev fr i)) (Zq (fun v=>k v H) ⟨⟩):=by rw [Xw rfl rfl];rfl
@[go_sem ↓] theorem oT {u x i} :Zv P ⟨d,.index u x i,t,ps,af,g⟩ fr H k=Ak (Iq P u (ev fr x) (ev fr i)) (Zq (fun v=>k v H) ⟨⟩):=by rw [Xw rfl rfl];rfl
def axt (x:V) (i:Nat):Option V:=match x with | .tup vs=>vs[i]? | _=>none
@[go_sem] theorem Zg6 {vs i} :axt (.tup vs) i=vs[i]? :=Zi rfl rfl
@[go_sem ↓] theorem gQ {x i} :Zv P ⟨d,.extract x i,t,ps,af,g⟩ fr H k=Ak (axt (ev fr x) i) (Zq (fun v=>k v H) ⟨⟩):=by
 rw [Xw rfl rfl]
 rfl
@[go_sem ↓] theorem oS {u l} :Zv P ⟨d,.build u (List.toArray l),t,ps,af,g⟩ fr H k=Ak (DE P H u (l.map fun x=>(x.1,ev fr x.2))) (Zq (fun v=>k v H) ⟨⟩):=by rw [Xw rfl rfl];rfl
@[go_sem ↓] theorem ZaL {x u} :Zv P ⟨d,.call ⟨.builtin .len,#[x],#[u]⟩,t,ps,af,g⟩ fr H k=Ak ((Tf P H u (ev fr x)).map .p) (Zq (fun v=>k v H) ⟨⟩):=by rw [Xw rfl rfl];rfl
@[go_sem ↓] theorem ZaM {x y us} :Zv P ⟨d,.call ⟨.builtin .max,#[x,y],us⟩,t,ps,af,g⟩ fr H k=Ak ((GY false [ev fr x,ev fr y]).map .p) (Zq (fun v=>k v H) ⟨⟩):=by
 rw [Xw rfl rfl];rfl
@[go_sem ↓] theorem oQ {u} :Zv P ⟨d,.alloc u,t,ps,af,g⟩ fr H k=KX ((Xd P u).map fun zs=>(.ptr H.length 0,H++ [.cells (zs.map .p)])) (Zq k ⟨⟩):=by rfl
@[go_sem ↓] theorem ZaK {u x} :Zv P ⟨d,.box u x,t,ps,af,g⟩ fr H k=KX ((vc H (ev fr x)).map fun cs=>(.ptr H.length 0,H++ [.cells cs])) (Zq k ⟨⟩):=by rfl
def rS (H:List Obj) (n:Option Nat) (a:V) (cs:Option (List V)):Option (List Obj):=n.bind fun n=>cs.bind fun cs=>K8 H n a cs
@[go_sem] theorem ZaO {n a cs} :rS H (some n) a (some cs)=K8 H n a cs:=Zi rfl rfl
@[go_sem ↓] theorem oV {u x y} :Zv P ⟨d,.store u x y,t,ps,af,g⟩ fr H k=hst (rS H (YO P u) (ev fr x) (vc H (ev fr y))) (Zq (k .junk) ⟨⟩):=by
 rw [P1 rfl rfl];simp only [Wt,rS]
 cases YO P u<;>cases vc H (ev fr y)<;>simp [hst,KX,Zq]
 grind
@[go_sem ↓] theorem P0 {u n l} :Zv P ⟨d,.buildSlice u n (List.toArray l),t,ps,af,g⟩ fr H k=KX (Wt P (.buildSlice u n (List.toArray l)) fr H) (Zq k ⟨⟩):=by rfl
@[go_sem ↓] theorem gS {u} :Zv P ⟨d,.makeMap u none,t,ps,af,g⟩ fr H k=k (.mp H.length) (H++ [.map []]):=by rfl
@[go_sem ↓] theorem jE {u x y ok} :Zv P ⟨d,.lookup u x y ok,t,ps,af,g⟩ fr H k=KX (AC P H u (ev fr x) (ev fr y) ok) (Zq k ⟨⟩):=by rfl
@[go_sem ↓] theorem rP {u x y z} :Zv P ⟨d,.mapUpdate u x y z,t,ps,af,g⟩ fr H k=KX (CL P H u (ev fr x) (ev fr y) (ev fr z)) (Zq k ⟨⟩):=by rfl
@[go_sem ↓] theorem SP {u x y} :Zv P ⟨d,.makeSlice u x y,t,ps,af,g⟩ fr H k=KX (Wt P (.makeSlice u x y) fr H) (Zq k ⟨⟩):=by rfl
@[go_sem ↓] theorem jC {x y u u2} :Zv P ⟨d,.call ⟨.builtin .append,#[x,y],#[u,u2]⟩,t,ps,af,g⟩ fr H k=KX (WQ P H u u2 (ev fr x) (ev fr y)) (Zq k ⟨⟩):=by rfl
@[go_sem ↓] theorem rL {f azs ts} :Zv P ⟨d,.call ⟨.value f,List.toArray azs,ts⟩,t,ps,af,g⟩ fr H k=CK P (ev fr f) (azs.map (ev fr)) H (Zq k ⟨⟩):=Zi rfl rfl
@[go_sem ↓] theorem Zdf {f fs cs azs} :CK P (.fn (.func f) fs cs) azs H k=ACalls P f (fs++azs++cs) H k:=Zi rfl rfl
@[go_sem ↓] theorem Zaa {f azs} :CK P (.p (.fn f)) azs H k=ACalls P f azs H k:=Zi rfl rfl
theorem Ik {f f' azs as'} (h:f=f') (h2:azs=as'):CK P f azs H k=CK P f' as' H k:=by rw [h,h2]
theorem GO {f azs as' H'} (h2:azs=as') (h3:H=H'):ACalls P f azs H k=ACalls P f as' H' k:=by rw [h2,h3]
theorem Il {x x' A B} (h:x=x'):VQ x A B=VQ x' A B:=by rw [h]
theorem GU {x x' b A B} (h:x=x'):Xv x b A B=Xv x' b A B:=by rw [h]
@[go_sem ↓, go_sem] theorem qJ {A:Prop} {t B'} :VQ (.p (.bool true)) (Zq A t) B'=A:=by simp [VQ,Zq]
@[go_sem ↓, go_sem] theorem oE {B:Prop} {t B'} :VQ (.p (.bool false)) B' (Zq B t)=B:=by simp [VQ,Zq]
@[go_sem ↓, go_sem] theorem Zam {A:Prop} {t B} :Xv (.p (.bool true)) true (Zq A t) B=A:=by simp [Xv,Zq]
@[go_sem ↓, go_sem] theorem Zal {B:Prop} {t A} :Xv (.p (.bool true)) false A (Zq B t)=B:=by simp [Xv,Zq]
@[go_sem ↓, go_sem] theorem Zak {B:Prop} {t A} :Xv (.p (.bool false)) true A (Zq B t)=B:=by simp [Xv,Zq]
@[go_sem ↓, go_sem] theorem Zaj {A:Prop} {t B} :Xv (.p (.bool false)) false (Zq A t) B=A:=by simp [Xv,Zq]
@[go_sem ↓, go_sem] theorem oG {b} {B:Prop} {t A} :Xv (.tup []) b A (Zq B t)=B:=by rfl
theorem QK {c:Bool} {A B:Prop} {t t'} (h1:c=true->A) (h2:c=false->B):VQ (.p (.bool c)) (Zq A t) (Zq B t'):=⟨h1,h2⟩
theorem Vs {c:Bool} {A B:Prop} {t t'} (h1:c=true->A) (h2:c=false->B):Xv (.p (.bool c)) true (Zq A t) (Zq B t'):=⟨h1,fun h=>h2 (by simpa using h)⟩
theorem Ui {c:Bool} {A B:Prop} {t t'} (h1:c=true->B) (h2:c=false->A):Xv (.p (.bool c)) false (Zq A t) (Zq B t'):=⟨h2,fun h=>h1 (by simpa using h)⟩
theorem Zd {P Q:Prop} (h:Q) (e:Q->P:=by intro h;simp (disch:=omega) only [go_sem,seval];exact h):P:=e h
class Dc (c:Bool) (p q:outParam Prop):Prop where
 t:c=true->p
 f:c=false->q
instance dcD {p : Prop} [Decidable p] : Dc (decide p) p (¬p) := ⟨Ba, of_decide_eq_false⟩
instance (priority := low) dcB {c : Bool} : Dc c (c = true) (c = false) := ⟨id, id⟩
theorem cD {c:Bool} {A B p q:Prop} {t t'} [d:Dc c p q] (h1:p->A) (h2:q->B):VQ (.p (.bool c)) (Zq A t) (Zq B t'):=QK (fun h=>h1 (d.t h)) (fun h=>h2 (d.f h))
theorem gT {c:Bool} {A B p q:Prop} {t t'} [d:Dc c p q] (h1:p->A) (h2:q->B):Xv (.p (.bool c)) true (Zq A t) (Zq B t'):=Vs (fun h=>h1 (d.t h)) (fun h=>h2 (d.f h))
theorem gF {c:Bool} {A B p q:Prop} {t t'} [d:Dc c p q] (h1:p->B) (h2:q->A):Xv (.p (.bool c)) false (Zq A t) (Zq B t'):=Ui (fun h=>h1 (d.t h)) (fun h=>h2 (d.f h))
@[go_sem] theorem ZhS {p:Prop} [Decidable p]:(!decide p)=decide (¬p):=Zb
end ops
attribute [congr] MD IB Ik GO Il GU
section vals
variable {P : Program} {H : List Obj} {k : IntKind} {t u : TypeId}
@[go_sem] theorem Zc2 {a b} :X9 P .add t (.p (.int k a)) (.p (.int k b))=some (.int k (k.wrap (a+b))):=by simp [X9,U5]
@[go_sem] theorem Zde {a b} :X9 P .sub t (.p (.int k a)) (.p (.int k b))=some (.int k (k.wrap (a-b))):=by simp [X9,U5]
@[go_sem] theorem Zc9 {a b} :X9 P .mul t (.p (.int k a)) (.p (.int k b))=some (.int k (k.wrap (a*b))):=by simp [X9,U5]
@[go_sem] theorem Zdb {a b} (h:b≠0):X9 P .quo t (.p (.int k a)) (.p (.int k b))=some (.int k (k.wrap (a.tdiv b))):=by simp [X9,U5,h]
@[go_sem] theorem Zdc {a b} (h:b≠0):X9 P .rem t (.p (.int k a)) (.p (.int k b))=some (.int k (a.tmod b)):=by simp [X9,U5,h]
@[go_sem] theorem S5 {a b} :X9 P .and t (.p (.int k a)) (.p (.int k b))=some (.int k (k.wrap ((BitVec.ofInt k.bits a&&&BitVec.ofInt k.bits b).toNat:Int))):=by simp [X9,U5]
@[go_sem] theorem NZ {a b} :X9 P .or t (.p (.int k a)) (.p (.int k b))=some (.int k (k.wrap ((BitVec.ofInt k.bits a|||BitVec.ofInt k.bits b).toNat:Int))):=by simp [X9,U5]
@[go_sem] theorem oC {a b} :X9 P .andNot t (.p (.int k a)) (.p (.int k b))=some (.int k (k.wrap ((BitVec.ofInt k.bits a&&& ~~~(BitVec.ofInt k.bits b)).toNat:Int))):=by simp [X9,U5]
@[go_sem] theorem Zc4 {a b} :X9 P .eql t (.p (.int k a)) (.p (.int k b))=some (.bool (decide (a=b))):=by simp [X9,U5]
@[go_sem] theorem Zda {a b} :X9 P .neq t (.p (.int k a)) (.p (.int k b))=some (.bool (decide (¬a=b))):=by simp [X9,U5]
@[go_sem] theorem Zc8 {a b} :X9 P .lss t (.p (.int k a)) (.p (.int k b))=some (.bool (decide (a<b))):=by simp [X9,U5]
@[go_sem] theorem Zc7 {a b} :X9 P .leq t (.p (.int k a)) (.p (.int k b))=some (.bool (decide (a<=b))):=by simp [X9,U5]
@[go_sem] theorem Zc6 {a b} :X9 P .gtr t (.p (.int k a)) (.p (.int k b))=some (.bool (decide (b<a))):=by simp [X9,U5]
@[go_sem] theorem Zc5 {a b} :X9 P .geq t (.p (.int k a)) (.p (.int k b))=some (.bool (decide (b<=a))):=by simp [X9,U5]
@[go_sem] theorem S7 {a b k'} (h:0<=b):X9 P .shl t (.p (.int k a)) (.p (.int k' b))=some (.int k (k.wrap (a*2^(min b.toNat k.bits)))):=by grind [X9,U5]
@[go_sem] theorem S8 {a b k'} (h:0<=b):X9 P .shr t (.p (.int k a)) (.p (.int k' b))=some (.int k (a.fdiv (2^(min b.toNat k.bits)))):=by grind [X9,U5]
@[go_sem] theorem Zdd {op a b} :X9 P op t (.p (.str a)) (.p (.str b))=H6 op a b:=Zi rfl rfl
@[go_sem] theorem ZfN {a b} :H6 .eql a b=some (.bool (decide (a=b))):=Zi rfl rfl
@[go_sem] theorem ZfO {a b} :H6 .neq a b=some (.bool (decide (¬a=b))):=by simp [H6]
@[go_sem] theorem fD {a b} (h:a.length+b.length<=9223372036854775807):H6 .add a b=some (.str (a++b)):=by simp [H6,h]
def ZdD (op:BinOp) (u:Option TypeDesc) (a b:Bool):Option PV:=match op,u with
  | .eql,some .bool=>some (.bool (a==b))
  | .neq,some .bool=>some (.bool (!(a==b)))
  | _,_=>none
end vals
attribute [irreducible] Ak KX hst bst
end Go.AM
namespace Go.AM
open Go.RowKit
section vals
variable {P : Program} {H : List Obj} {k : IntKind} {t u : TypeId}
@[go_sem] theorem zV {op a b} :X9 P op t (.p (.bool a)) (.p (.bool b))=ZdD op (P.underlying t) a b:=Zi rfl rfl
@[go_sem] theorem ZdE {a b} :ZdD .eql (some .bool) a b=some (.bool (a==b)):=Zi rfl rfl
def sS (g:Bool) (op:BinOp) (r:Option Bool):Option PV:=if g then none else match op with
 | .eql=>r.map .bool
 | .neq=>r.map fun r=> .bool (!r)
 | _=>none
@[go_sem] theorem Zc3 {op a b} :X9 P op t (.p (.agg a)) (.p (.agg b))=sS (P.eqGuardType P.depth t) op (Y1 P 9 t (.agg a) (.agg b)):=Zi rfl rfl
@[go_sem] theorem Zd5 {b} :sS false .eql (some b)=some (.bool b):=Zi rfl rfl
@[go_sem] theorem Zd6 {b} :sS false .neq (some b)=some (.bool (!b)):=Zi rfl rfl
def K4 (P:Program) (d:Nat) (t:TypeId) (D:Option TypeDesc) (x y:PV):Option Bool:=match D,x,y with
  | some .bool,.bool a,.bool b=>some (a==b)
  | some (.int _),.int k a,.int k' b=>if k=k' then some (decide (a=b)) else none
  | some .string,.str a,.str b=>some (decide (a=b))
  | some (.struct fs),.agg a,.agg b=>if P.stoodInHeld t then none else Ay (Y1 P d) P fs.toList a b
  | some (.array n e),.agg a,.agg b=>match YO P e with | some m=>BT (Y1 P d e) P e m n 0 a b | none=>none
  | _,_,_=>none
@[go_sem] theorem Zag {d x y} :Y1 P (d+1) t x y=K4 P d t (P.underlying t) x y:=Zi rfl rfl
@[go_sem] theorem Zaf {d a b} :K4 P d t (some .bool) (.bool a) (.bool b)=some (a==b):=Zi rfl rfl
@[go_sem] theorem Zdh {d k0 a b} :K4 P d t (some (.int k0)) (.int k a) (.int k b)=some (decide (a=b)):=by simp [K4]
theorem WI {d fs a b} (h:P.stoodInHeld t=false):K4 P d t (some (.struct fs)) (.agg a) (.agg b)=Ay (Y1 P d) P fs.toList a b:=by simp [K4,h]
theorem My {d n e m a b} (h:YO P e=some m):K4 P d t (some (.array n e)) (.agg a) (.agg b)=BT (Y1 P d e) P e m n 0 a b:=by simp [K4,h]
def QA (x y:Option Bool):Option Bool:=x.bind fun p=>y.map fun q=>p&&q
@[go_sem] theorem Zbn {p q} :QA (some p) (some q)=some (p&&q):=Zi rfl rfl
def FL (f:PV->PV->Option Bool) (x y:Option PV):Option Bool:=x.bind fun x=>y.bind fun y=>f x y
@[go_sem] theorem ZdW {f x y} :FL f (some x) (some y)=f x y:=Zi rfl rfl
@[go_sem] theorem Qj {f a b} :Ay f P [] a b=some true:=Zi rfl rfl
@[go_sem] theorem Ua {f fi r a b} : Ay f P (fi :: r) a b = if fi.name = "_" then Ay f P r a b else QA (FL (f fi.type) (apart P fi.type a fi.offset) (apart P fi.type b fi.offset)) (Ay f P r a b) := by
 simp only [Ay]
 split
 ·rfl
 ·cases apart P fi.type a fi.offset<;>cases apart P fi.type b fi.offset<;>simp [FL,QA]
  rename_i x y
  cases f fi.type x y<;>cases Ay f P r a b<;>rfl
@[go_sem] theorem Zae {f e n i a b} :BT f P e n 0 i a b=some true:=Zi rfl rfl
@[go_sem] theorem Zad {f e n i m a b} :BT f P e n (m+1) i a b=QA (FL f (apart P e a (i*n)) (apart P e b (i*n))) (BT f P e n m (i+1) a b):=by
 simp only [BT]
 cases apart P e a (i*n)<;>cases apart P e b (i*n)<;>simp [FL,QA]
 rename_i x y
 cases f x y<;>cases BT f P e n m (i+1) a b<;>rfl
def Zds (g:Option Bool) (s:Option Nat) (cs:List PV) (off:Nat):Option PV:=match g,s with
 | some true,some n=>if off+n<=cs.length then some (.agg ((cs.drop off).take n)) else none
 | some false,_=>cs[off]?
 | _,_=>none
@[go_sem] theorem Zdr {cs off} :apart P t cs off=Zds (Xu P t) (YO P t) cs off:=Zi rfl rfl
@[go_sem] theorem Zdt {s cs off} :Zds (some false) s cs off=cs[off]? :=Zi rfl rfl
def MA (g:Option Bool) (s:Option Nat) (H:List Obj) (x:V):Option V:=match g,s with
 | some true,some n=>(VG H x n).map mkA
 | some false,_=>match VG H x 1 with
  | some (c::_)=>some c
  | _=>none
 | _,_=>none
def hdO (x:Option (List V)):Option V:=match x with | some (c::_)=>some c | _=>none
@[go_sem] theorem Zd9 {c l} :hdO (some (c::l))=some c:=Zi rfl rfl
@[go_sem] theorem Zdm {x} :Ql P H t x=MA (Xu P t) (YO P t) H x:=Zi rfl rfl
@[go_sem] theorem qT {s x} :MA (some false) s H x=hdO (VG H x 1):=by rfl
@[go_sem] theorem qS {n x} :MA (some true) (some n) H x=(VG H x n).map mkA:=Zi rfl rfl
@[go_sem] theorem Zac {x j n} :VG H (.lp x j) n=if j+n<=x.cells.length then some (((x.cells.drop j).take n).map .p) else none:=Zi rfl rfl
def dL (ob:Obj) (off n:Nat):Option (List V):=match ob with | .cells cs=>if off+n<=cs.length then some ((cs.drop off).take n) else none | _=>none
@[go_sem] theorem qI {o off n} :VG H (.ptr o off) n=dL (oat H o) off n:=Zi rfl rfl
@[go_sem] theorem mJ {cs off n} :dL (.cells cs) off n=if off+n<=cs.length then some ((cs.drop off).take n) else none:=Zi rfl rfl
def T5 (ob:Obj) (i j tot n:Nat):Option (List V):=match ob with
 | .elems _ xs=>if xs.length=tot/\i<xs.length/\j+n<=(JE xs i).cells.length then some ((((JE xs i).cells.drop j).take n).map .p) else none
 | _=>none
@[go_sem] theorem Zab {o i j tot n} :VG H (.ep o i j tot) n=T5 (oat H o) i j tot n:=Zi rfl rfl
@[go_sem] theorem kE {S xs i j tot n} :T5 (.elems S xs) i j tot n=if xs.length=tot/\i<xs.length/\j+n<=(JE xs i).cells.length then some ((((JE xs i).cells.drop j).take n).map .p) else none:=Zi rfl rfl
@[go_sem] theorem ZaW {cs} :(PV.agg cs).cells=cs:=Zi rfl rfl
@[go_sem] theorem ZaY {n} :(PV.int k n).cells= [.int k n]:=Zi rfl rfl
@[go_sem] theorem sA {b} :(PV.bool b).cells= [.bool b]:=Zi rfl rfl
@[go_sem] theorem ZaZ {s} :(PV.str s).cells= [.str s]:=Zi rfl rfl
@[go_sem] theorem sB {c xs} :(PV.list c xs).cells= [.list c xs]:=Zi rfl rfl
@[go_sem] theorem ZhU {n} :(PV.int k n).one=true:=Zi rfl rfl
@[go_sem] theorem Zfx {b} :(PV.bool b).one=true:=Zi rfl rfl
@[go_sem] theorem ZhV {s} :(PV.str s).one=true:=Zi rfl rfl
@[go_sem] theorem Zfy {c xs} :(PV.list c xs).one=true:=Zi rfl rfl
@[go_sem] theorem ZjA {cs} :mkA cs=match UX cs with | some ps=> .p (.agg ps) | none=> .agg cs:=Zi rfl rfl
@[go_sem] theorem Zdl : UX []=some []:=Zi rfl rfl
@[go_sem] theorem Zas {x r} :UX (.p x::r)=(UX r).map (x:: ·):=by rfl
def C6 (n:Option Nat) (a:Bool) (x:V):Option V:=match n with | some n=>if a then some (AD n x) else none | none=>none
@[go_sem] theorem Zah {s f x} :QL P H s f x=C6 (ZQ P s f) (Y5 H x) x:=Zi rfl rfl
@[go_sem] theorem iC {n x} :C6 (some n) true x=some (AD n x):=Zi rfl rfl
@[go_sem] theorem Zdp {n x j} :AD n (.lp x j)= .lp x (j+n):=Zi rfl rfl
@[go_sem] theorem Zax {n o off} :AD n (.ptr o off)= .ptr o (off+n):=Zi rfl rfl
@[go_sem] theorem Zdo {n o i j tot} :AD n (.ep o i j tot)= .ep o i (j+n) tot:=Zi rfl rfl
def OJ (ob:Obj):Bool:=match ob with | .cells _=>true | _=>false
@[go_sem] theorem gW {cs} :OJ (.cells cs)=true:=Zi rfl rfl
def OK (ob:Obj) (tot:Nat):Bool:=match ob with | .elems _ xs=>decide (xs.length=tot) | _=>false
@[go_sem] theorem gX {S xs tot} :OK (.elems S xs) tot=decide (xs.length=tot):=Zi rfl rfl
def ON (ob:Obj) (tot:Nat):Bool:=match ob with | .elems _ xs=>decide (xs.length=tot) | .cells _=>true | _=>false
@[go_sem] theorem pL {S xs tot} :ON (.elems S xs) tot=decide (xs.length=tot):=Zi rfl rfl
@[go_sem] theorem pK {cs tot} :ON (.cells cs) tot=true:=Zi rfl rfl
@[go_sem] theorem Zdk {x j} :Y5 H (.lp x j)=true:=Zi rfl rfl
@[go_sem] theorem qQ {o off} :Y5 H (.ptr o off)=OJ (oat H o):=Zi rfl rfl
@[go_sem] theorem Zdj {o i j tot} :Y5 H (.ep o i j tot)=OK (oat H o) tot:=Zi rfl rfl
def VY (e:Option (Option Nat×Nat)) (H:List Obj) (x i:V):Option V:=match e,i with
 | some (none,S),.p (.int _ n)=>match x with
  | .p (.list _ xs)=>if 0<=n/\n<xs.length then (if (JE xs n.toNat).cells.length=S then some (.lp (JE xs n.toNat) 0) else none) else none
  | .sl o off len tot=>match oat H o with
   | .elems S' xs=>if xs.length=tot/\S'=S then (if 0<=n/\n<len then some (.ep o (off+n.toNat) 0 tot) else none) else none
   | .cells _=>if S=1/\off=0/\len=tot/\0<=n/\n<len then some (.ptr o n.toNat) else none
   | _=>none
  | _=>none
 | some (some k,S),.p (.int _ n)=>if 0<=n/\n<k then (if Y5 H x then some (AD (n.toNat*S) x) else none) else none
 | _,_=>none
@[go_sem] theorem Zao {x i} :UW P H t x i=VY (YX P t) H x i:=Zi rfl rfl
theorem GV {S c xs n} (h0:0<=n) (h1:n<(List.length xs:Int)):VY (some (none,S)) H (.p (.list c xs)) (.p (.int k n))=if (JE xs n.toNat).cells.length=S then some (.lp (JE xs n.toNat) 0) else none:=by
 simp_all [VY]
def nth {α:Type} [Inhabited α] (l:List α) (i:Nat):α:=l.getD i default
theorem QT {α:Type} [Inhabited α] {f:α->PV} {l:List α} {i:Nat} (h:i<l.length):JE (l.map f) i=f (nth l i):=by
 simp [JE,nth,h]
theorem Zg {α:Type} [Inhabited α] {l:List α} {i:Nat} (h:i<l.length):nth l i=l[i]:=by simp [nth,h]
@[go_sem] theorem oI {α:Type} [Inhabited α] {f:α->PV} {l:List α} {S c n} (h0:0<=n) (h1:n<(l.length:Int)) :
  VY (some (none,S)) H (.p (.list c (l.map f))) (.p (.int k n))=if (f (nth l n.toNat)).cells.length=S then some (.lp (f (nth l n.toNat)) 0) else none:=by
 grind [GV,QT]
def EY (ob:Obj) (S o off len tot:Nat) (n:Int):Option V:=match ob with
 | .elems S' xs=>if xs.length=tot/\S'=S then (if 0<=n/\n<len then some (.ep o (off+n.toNat) 0 tot) else none) else none
 | .cells _=>if S=1/\off=0/\len=tot/\0<=n/\n<len then some (.ptr o n.toNat) else none
 | _=>none
@[go_sem] theorem qM {S o off len tot n} :VY (some (none,S)) H (.sl o off len tot) (.p (.int k n))=EY (oat H o) S o off len tot n:=Zi rfl rfl
@[go_sem] theorem Zbu {S xs o off} {len tot:Nat} {n:Int} (h0:0<=n) (h1:n<(len:Int)) (ht:xs.length=tot):EY (.elems S xs) S o off len tot n=some (.ep o (off+n.toNat) 0 tot):=by
 grind [EY]
@[go_sem] theorem nF {cs o} {len:Nat} {n:Int} (h0:0<=n) (h1:n<(len:Int)):EY (.cells cs) 1 o 0 len len n=some (.ptr o n.toNat):=by
 grind [EY]
@[go_sem] theorem oH {n} {m S:Nat} {x} (h0:0<=n) (h1:n<(m:Int)):VY (some (some m,S)) H x (.p (.int k n))=C6 (some (n.toNat*S)) (Y5 H x) x:=by
 simp_all [VY,C6]
def N0 (H:List Obj) (D:Option TypeDesc) (x:V):Option PV:=match D,x with
 | some (.slice _),.p (.list _ xs)=>some (.int .i64 xs.length)
 | some (.slice _),.sl o _ len tot=>match oat H o with
  | .elems _ xs=>if xs.length=tot then some (.int .i64 len) else none
  | _=>none
 | some .string,.p (.str s)=>some (.int .i64 s.length)
 | some (.array n _),_=>some (.int .i64 n)
 | _,_=>none
@[go_sem] theorem ZgX {x} :Tf P H t x=N0 H (P.underlying t) x:=Zi rfl rfl
@[go_sem] theorem qN {e c xs} :N0 H (some (.slice e)) (.p (.list c xs))=some (.int .i64 (List.length xs)):=Zi rfl rfl
def ZfS (ob:Obj) (len tot:Nat):Option PV:=match ob with | .elems _ xs=>if xs.length=tot then some (.int .i64 len) else none | _=>none
@[go_sem] theorem Zdi {e o off len tot} :N0 H (some (.slice e)) (.sl o off len tot)=ZfS (oat H o) len tot:=Zi rfl rfl
@[go_sem] theorem yP {S xs len tot} :ZfS (.elems S xs) len tot=if xs.length=tot then some (.int .i64 len) else none:=Zi rfl rfl
@[go_sem] theorem Zar {s} :N0 H (some .string) (.p (.str s))=some (.int .i64 (List.length s)):=Zi rfl rfl
@[go_sem] theorem Zg5 {b} :aun .not (.p (.bool b))=some (.bool (!b)):=Zi rfl rfl
@[go_sem] theorem Zg4 {n} :aun .neg (.p (.int k n))=some (.int k (k.wrap (0-n))):=Zi rfl rfl
def S9 (D E:Option TypeDesc) (x:V):Option PV:=match D,E,x with
 | some _,some (.int k),.p (.int _ n)=>some (.int k (k.wrap n))
 | some (.int _),some .string,.p (.int _ n)=>if 0<=n/\n<128 then some (.str [UInt8.ofNat n.toNat]) else none
 | some .string,some .string,.p (.str b)=>some (.str b)
 | _,_,_=>none
@[go_sem] theorem Zdg {s x} :Im P s t x=S9 (P.underlying s) (P.underlying t) x:=Zi rfl rfl
@[go_sem] theorem qK {D k' n} :S9 (some D) (some (.int k)) (.p (.int k' n))=some (.int k (k.wrap n)):=by rfl
def GT (E:Option TypeDesc) (H:List Obj) (x:V):Option PV:=match E,x with
  | some (.int .u8),.p (.list _ xs)=>(YP xs).map .str
  | some (.int .u8),.sl o off len tot=>match oat H o with
   | .elems _ xs=>if xs.length=tot/\off+len<=tot then (YP ((xs.take (off+len)).drop off)).map .str else none
   | _=>none
  | _,_=>none
def GS (P:Program) (H:List Obj) (D E:Option TypeDesc) (x:V):Option PV:=match D,E with
 | some (.slice e),some .string=>GT (P.underlying e) H x
 | _,_=>none
@[go_sem] theorem zZ {s x} :BS P H s t x=GS P H (P.underlying s) (P.underlying t) x:=Zi rfl rfl
@[go_sem] theorem oD {E x} :GS P H (some (.int k)) E x=none:=Zi rfl rfl
@[go_sem] theorem gK {e x} :GS P H (some (.slice e)) (some .string) x=GT (P.underlying e) H x:=Zi rfl rfl
def fE (ob:Obj) (off len tot:Nat):Option PV:=match ob with | .elems _ xs=>if xs.length=tot/\off+len<=tot then (YP ((xs.take (off+len)).drop off)).map .str else none | _=>none
@[go_sem] theorem qH {o off len tot} :GT (some (.int .u8)) H (.sl o off len tot)=fE (oat H o) off len tot:=Zi rfl rfl
@[go_sem] theorem nB {S xs off len tot} :fE (.elems S xs) off len tot=if xs.length=tot/\off+len<=tot then (YP ((xs.take (off+len)).drop off)).map .str else none:=Zi rfl rfl
@[go_sem] theorem pA : YP []=some []:=Zi rfl rfl
@[go_sem] theorem jM {n r} :YP (.int .u8 n::r)=(YP r).map (UInt8.ofNat n.toNat:: ·):=by rfl
@[go_sem] theorem Zim {a b:Int} (h:0<=a):a.tdiv b=a / b:=Da h
@[go_sem] theorem Ziz {a b:Int} (h:0<=a):a.tmod b=a%b:=Int.tmod_eq_emod_of_nonneg h
@[go_sem] theorem Zk4 {cs} :vc H (.p (.agg cs))=if cs.all (·.one)=true then some (cs.map .p) else none:=by rfl
@[go_sem] theorem ZiA {cs} :vc H (.agg cs)=if cs.all (V.one H)=true then some cs else none:=by rfl
@[go_sem] theorem Zk5 {n} :vc H (.p (.int k n))=some [.p (.int k n)]:=Zi rfl rfl
@[go_sem] theorem ZiB {n} :vc H (.p (.bool n))=some [.p (.bool n)]:=Zi rfl rfl
@[go_sem] theorem Zk6 {n} :vc H (.p (.str n))=some [.p (.str n)]:=Zi rfl rfl
@[go_sem] theorem ZiC {c xs} :vc H (.p (.list c xs))=some [.p (.list c xs)]:=Zi rfl rfl
@[go_sem] theorem Zmk {o off len tot} :vc H (.sl o off len tot)=if ON (oat H o) tot=true then some [.sl o off len tot] else none:=Zi rfl rfl
@[go_sem] theorem Zk7 {x} :V.one H (.p x)=x.one:=Zi rfl rfl
@[go_sem] theorem ZiF {o off len tot} :V.one H (.sl o off len tot)=ON (oat H o) tot:=Zi rfl rfl
@[go_sem] theorem ZiE {o} :V.one H (.mp o)=OL (oat H o):=Zi rfl rfl
@[go_sem] theorem Zmj {o} :vc H (.mp o)=if OL (oat H o)=true then some [.mp o] else none:=Zi rfl rfl
@[go_sem] theorem Zbd {es} :OL (.map es)=true:=Zi rfl rfl
@[go_sem] theorem Ia {α:Type} {n} {cs:List α} :Qh ([]:List α) n cs= []:=by rfl
@[go_sem] theorem ZfV {α:Type} {x c:α} {l cs} :Qh (x::l) 0 (c::cs)=c::Qh l 0 cs:=by simp [Qh]
@[go_sem] theorem Zbv {α:Type} {x:α} {l} :Qh (x::l) 0 []=x::l:=by simp [Qh]
@[go_sem] theorem ZfU {α:Type} {x:α} {l cs n} :Qh (x::l) (n+1) cs=x::Qh l n cs:=by simp [Qh]
def dZ (H:List Obj) (o:Nat) (ob:Obj) (off n:Nat) (cs:List V):Option (List Obj):=match ob with
 | .cells old=>if off+n<=old.length then some (ED H o (.cells (Qh old off cs))) else none
 | _=>none
@[go_sem] theorem rR {n o off cs} :K8 H n (.ptr o off) cs=if cs.length=n then dZ H o (oat H o) off n cs else none:=Zi rfl rfl
@[go_sem] theorem mR {o old off n cs} :dZ H o (.cells old) off n cs=if off+n<=old.length then some (ED H o (.cells (Qh old off cs))) else none:=Zi rfl rfl
def MU (H:List Obj) (o:Nat) (ob:Obj) (i j tot n:Nat) (ps:Option (List PV)):Option (List Obj):=match ob,ps with
 | .elems S xs,some ps=>if xs.length=tot/\i<xs.length/\j+n<=(JE xs i).cells.length/\ps.all (·.one)=true/\(JE xs i).cells.all (·.one)=true then
   some (ED H o (.elems S (xs.set i (gY (JE xs i) (Qh (JE xs i).cells j ps))))) else none
 | _,_=>none
@[go_sem] theorem ZaN {n o i j tot cs} :K8 H n (.ep o i j tot) cs=if cs.length=n then MU H o (oat H o) i j tot n (UX cs) else none:=Zi rfl rfl
@[go_sem] theorem sO {α:Type} [Inhabited α] {f:α->PV} {l:List α} {o S i j tot n ps} (ht:l.length=tot) (hi:i<l.length):MU H o (.elems S (l.map f)) i j tot n (some ps) =
  if j+n<=(f (nth l i)).cells.length/\ps.all (·.one)=true/\(f (nth l i)).cells.all (·.one)=true then
   some (ED H o (.elems S ((l.map f).set i (gY (f (nth l i)) (Qh (f (nth l i)).cells j ps))))) else none:=by
 simp_all [MU,QT]
@[go_sem] theorem ZhQ {a cs} :gY (.agg a) cs= .agg cs:=Zi rfl rfl
@[go_sem] theorem ZhR {n c l} :gY (.int k n) (c::l)=c:=Zi rfl rfl
@[go_sem] theorem zY {l} :DE P H t l=match Xd P t,CC P t with
 | some zs,some pl=>(Jv H pl (zs.map .p) l).map mkA
 | _,_=>none:=Zi rfl rfl
@[go_sem] theorem Zai {pl cs} :Jv H pl cs []=some cs:=by simp [Jv]
def Tb (H:List Obj) (pl:Nat->Option (Nat×Nat)) (cs:List V) (r:List (Nat×V)) (q:Option (Nat×Nat)) (vs:Option (List V)):Option (List V):=match q,vs with
 | some (off,sz),some vs=>if vs.length=sz/\off+sz<=cs.length then Jv H pl (Qh cs off vs) r else none
 | _,_=>none
@[go_sem] theorem qL {pl cs i v r} :Jv H pl cs ((i,v)::r)=Tb H pl cs r (pl i) (vc H v):=Zi rfl rfl
@[go_sem] theorem oF {pl cs off sz vs r} :Tb H pl cs r (some (off,sz)) (some vs)=if vs.length=sz/\off+sz<=cs.length then Jv H pl (Qh cs off vs) r else none:=Zi rfl rfl
@[go_sem] theorem ZjG {l i} :Cq l i=l[i]? :=Zi rfl rfl
@[go_sem] theorem ZjF {n i} :plA n i=some (i*n,n):=Zi rfl rfl
end vals
end Go.AM
namespace Go.AM
open Go.RowKit
section
variable {P : Program} {H : List Obj} {k : IntKind} {t u : TypeId} {fr : List V}
def Tg (S:Option Nat) (H:List Obj) (n:Nat) (l:List (Nat×V)):Option (V×List Obj):=match S with
 | some S=>if n=l.length/\n*S<=16777216/\0<S then (Qw H S 0 l).map fun xs=>(.sl H.length 0 n n,H++ [.elems S xs]) else none
 | none=>none
@[go_sem] theorem Zdn {n l} :Wt P (.buildSlice t n (List.toArray l)) fr H=Tg (V5 P t) H n (l.map fun x=>(x.1,ev fr x.2)):=by
 grind [Wt,V5,Tg,Mz]
@[go_sem] theorem qO {S n l} :Tg (some S) H n l=if n=l.length/\n*S<=16777216/\0<S then (Qw H S 0 l).map fun xs=>(.sl H.length 0 n n,H++ [.elems S xs]) else none:=Zi rfl rfl
@[go_sem] theorem Zfg {S n} :Qw H S n []=some []:=by simp [Qw]
@[go_sem] theorem Zbi {S n i x r} :Qw H S n ((i,.p x)::r)=if i=n then if x.cells.length=S/\x.cells.all (·.one)=true then (Qw H S (n+1) r).map (x:: ·) else none else none:=by rfl
@[go_sem] theorem ZhG {S n i f r} :Qw H S n ((i,.fn (.func f) [] [])::r)=if i=n then if 1=S then (Qw H S (n+1) r).map (.fn f:: ·) else none else none:=by simp [Qw,pvo,PV.cells,PV.one]
def Qm (P:Program) (t:TypeId):Option (Nat×Nat):=match P.underlying t with
 | some (.slice e)=>match YO P e,zval P e,(P.info? e).map (·.bytes) with
  | some S,some z,some by'=>if 0<S/\z.cells.length=S/\z.cells.all (·.one)=true/\by'≠0 then some (S,by') else none
  | _,_,_=>none
 | _=>none
theorem DL {S by'} (h:Qm P t=some (S,by')): ∃e z,P.underlying t=some (.slice e)/\YO P e=some S/\zval P e=some z/\(P.info? e).map (·.bytes)=some by'/\0<S/\z.cells.length=S/\z.cells.all (·.one)=true/\by'≠0:=by
 unfold Qm at h
 grind
def YL (D:Option TypeDesc) (H:List Obj) (y:V):Option (List PV):=match D,y with
 | some (.slice _),.p (.list _ ys)=>some ys
 | some (.slice _),.sl o off len tot=>match oat H o with
  | .elems _ xs=>if xs.length=tot/\off+len<=tot then some ((xs.take (off+len)).drop off) else none
  | _=>none
 | some .string,.p (.str s)=>some (s.map fun b=> .int .u8 b.toNat)
 | _,_=>none
def fO (ob:Obj) (off len tot:Nat):Option (List PV):=match ob with | .elems _ xs=>if xs.length=tot/\off+len<=tot then some ((xs.take (off+len)).drop off) else none | _=>none
@[go_sem] theorem rF {e c ys} :YL (some (.slice e)) H (.p (.list c ys))=some ys:=Zi rfl rfl
@[go_sem] theorem Zdy {e o off len tot} :YL (some (.slice e)) H (.sl o off len tot)=fO (oat H o) off len tot:=Zi rfl rfl
theorem L8 {S xs n} (h:List.length xs=n):fO (.elems S xs) 0 n n=some xs:=by grind [fO]
def PP (H:List Obj) (F:Option (Nat×Nat)) (ys:Option (List PV)):Option (V×List Obj):=match F,ys with
 | some (S,by'),some ys=>if Ks S ys=true/\ys.length*by'<=140737488355328/\ys.length<=140737488355328 then some (.sl H.length 0 ys.length ys.length,H++ [.elems S ys]) else none
 | _,_=>none
def VH (H:List Obj) (F:Option (Nat×Nat)) (ob:Obj) (o n:Nat) (ys:Option (List PV)):Option (V×List Obj):=match F,ob,ys with
 | some (S,by'),.elems S' xs,some ys=>if S'=S/\xs.length=n/\Ks S ys=true/\(n+ys.length)*by'<=140737488355328/\n+ys.length<=140737488355328 then
   some (.sl o 0 (n+ys.length) (n+ys.length),ED H o (.elems S (xs++ys))) else none
 | _,_,_=>none
theorem GQ {z x y ys e S by'} (h1:P.underlying t=some (.slice e)) (h2:YO P e=some S) (h3:zval P e=some z) (h4:(P.info? e).map (·.bytes)=some by') (h5:Fh P H u y=some ys) (h6:0<S/\z.cells.length=S/\z.cells.all (·.one)=true/\by'≠0) :
  WQ P H t u x y=if Ks S ys=true then (match x with
    | .p (.list cl xs)=>if cl=true/\Ks S xs=true/\(xs= []\/0<ys.length)/\(xs.length+ys.length)*by'<=140737488355328/\xs.length+ys.length<=140737488355328 then
      some (.sl H.length 0 (xs.length+ys.length) (xs.length+ys.length),H++ [.elems S (xs++ys)]) else none
    | .sl o off len tot=>match oat H o with
     | .elems S' xs=>if S'=S/\off=0/\len=tot/\xs.length=tot/\(tot+ys.length)*by'<=140737488355328/\tot+ys.length<=140737488355328 then
       some (.sl o 0 (tot+ys.length) (tot+ys.length),ED H o (.elems S (xs++ys))) else none
     | _=>none
    | _=>none) else none:=by
 simp only [WQ,h1,h2,h3,h4,h5]
 grind
theorem Ij {y F} (hF:Qm P t=some F):WQ P H t u (.p (.list true [])) y=PP H (some F) (YL (P.underlying u) H y):=by
 obtain ⟨S,by'⟩:=F;obtain ⟨e,z,h1,h2,h3,h4,h6⟩:=DL hF;have e1:YL (P.underlying u) H y=Fh P H u y:=Zi rfl rfl;rw [e1]
 cases h5:Fh P H u y with
 | none=>grind [WQ,PP]
 | some ys =>
  grind [GQ,PP,Ks]
theorem X0 {y F o n} (hF:Qm P t=some F):WQ P H t u (.sl o 0 n n) y=VH H (some F) (oat H o) o n (YL (P.underlying u) H y):=by
 obtain ⟨S,by'⟩:=F;obtain ⟨e,z,h1,h2,h3,h4,h6⟩:=DL hF;have e1:YL (P.underlying u) H y=Fh P H u y:=Zi rfl rfl;rw [e1]
 cases h5:Fh P H u y with
 | none =>
  grind [WQ,VH]
 | some ys =>
  rw [GQ h1 h2 h3 h4 h5 h6];simp only [VH]
  grind
@[go_sem] theorem ZaC {S b ys} :PP H (some (S,b)) (some ys)=if Ks S ys=true/\ys.length*b<=140737488355328/\ys.length<=140737488355328 then some (.sl H.length 0 ys.length ys.length,H++ [.elems S ys]) else none:=Zi rfl rfl
theorem FD {S b xs ys o n} (hn:xs.length=n) (hb:(n+ys.length)*b<=140737488355328) (hb2:n+ys.length<=140737488355328):VH H (some (S,b)) (.elems S xs) o n (some ys)=if Ks S ys=true then some (.sl o 0 (n+ys.length) (n+ys.length),ED H o (.elems S (xs++ys))) else none:=by
 simp_all [VH]
@[go_sem] theorem ZfX {α:Type} {S} {f:α->PV} {l:List α} :fO (.elems S (l.map f)) 0 l.length l.length=some (l.map f):=L8 Zb
@[go_sem] theorem ZfY {S x} :fO (.elems S [x]) 0 1 1=some [x]:=L8 Zb
@[go_sem] theorem ZaE {α:Type} {S b o x} {f:α->PV} {l:List α} (hb:(l.length+1)*b<=140737488355328) (hb2:l.length+1<=140737488355328):VH H (some (S,b)) (.elems S (l.map f)) o l.length (some [x])=if Ks S [x]=true then some (.sl o 0 (l.length+1) (l.length+1),ED H o (.elems S (l.map f++ [x]))) else none :=
 FD Zb Za Za
@[go_sem] theorem ZaF {α β:Type} {S b o} {f:α->PV} {g:β->PV} {l:List α} {m:List β} (hb:(l.length+m.length)*b<=140737488355328) (hb2:l.length+m.length<=140737488355328):VH H (some (S,b)) (.elems S (l.map f)) o l.length (some (m.map g))=if Ks S (m.map g)=true then some (.sl o 0 (l.length+m.length) (l.length+m.length),ED H o (.elems S (l.map f++m.map g))) else none:=by
 grind [FD]
@[go_sem] theorem ZhT {S} :Ks S []=true:=Zi rfl rfl
@[go_sem] theorem Zfq {S x l} :Ks S (x::l)=((x.cells.length==S)&&x.cells.all (·.one)&&Ks S l):=by rfl
theorem Jd {α:Type} {S} {f:α->PV} {l:List α} (h: ∀x,xR S (f x)=true):Ks S (l.map f)=true:=by grind [Ks]
def OV (P:Program) (t:TypeId):Option (Nat×Nat×PV):=match P.underlying t with
  | some (.slice e)=>match YO P e,zval P e,(P.info? e).map (·.bytes) with
   | some S,some z,some by'=>if z.cells.all (·.one)=true/\z.cells.length=S/\0<S then some (S,by',z) else none
   | _,_,_=>none
  | _=>none
end
def Wa : Nat->List Nat->List V->List V
 | _,_,[]=> []
 | i,[],_::l=> .junk::Wa (i+1) [] l
 | i,k::ks,x::l=>if i=k then x::Wa (i+1) ks l else .junk::Wa (i+1) (k::ks) l
def Ju : List (Nat×V)->List V->List V
 | [],fr=>fr
 | (i,v)::r,fr=>Ju r (pt fr i v)
@[go_sem] theorem Zbe {i ks} :Wa i ks []= []:=by rfl
@[go_sem] theorem xG {i x l} :Wa i [] (x::l)= .junk::Wa (i+1) [] l:=by simp [Wa]
@[go_sem] theorem xF {i k ks x l} :Wa i (k::ks) (x::l)=if i=k then x::Wa (i+1) ks l else .junk::Wa (i+1) (k::ks) l:=by simp [Wa]
@[go_sem] theorem Zlk : ((0:Nat):Int)=0:=Zi rfl rfl
@[go_sem] theorem Zll {n:Nat} :((n+1:Nat):Int)=(n:Int)+1:=Zi rfl rfl
@[go_sem] theorem Zke {n:Nat} :((n:Int)).toNat=n:=Zi rfl rfl
@[go_sem] theorem ZfP {fr} :Ju [] fr=fr:=by simp [Ju]
@[go_sem] theorem Zbt {i v r fr} :Ju ((i,v)::r) fr=Ju r (pt fr i v):=by simp [Ju]
@[go_sem] theorem Zg2 {p q:Prop} [Decidable p] [Decidable q]:(decide p&&decide q)=decide (p/\q):=Zb
@[go_sem] theorem xV {p q:Prop} [Decidable p] [Decidable q]:(decide p||decide q)=decide (p\/q):=Zb
theorem Zn {P c fr H Q} {I:Type} (ks:List Nat) (sets:I->List (Nat×V)) (hs:I->List Obj) (R:I->Prop) (μ:I->Nat) (i0:I) (hR:R i0) (h0:Weak H.length fr H (Ju (sets i0) (Wa 0 ks fr)) (hs i0))
  (round: ∀i,R i->QP [] P c (Ju (sets i) (Wa 0 ks fr)) (hs i) (UT (fun fr' H'=> ∃i',R i'/\μ i'<μ i/\Weak H.length fr' H' (Ju (sets i') (Wa 0 ks fr)) (hs i')) Q)):AWP P (.loop c) fr H Q :=
 IC R (fun i=>Ju (sets i) (Wa 0 ks fr)) hs μ i0 hR h0 fun i hi=>Zf [] _ _ _ _ (round i hi)
theorem XG {P c fr H Q} (cuts:List Nat) {I:Type} (ks:List Nat) (sets:I->List (Nat×V)) (hs:I->List Obj) (R:I->Prop) (μ:I->Nat) (i0:I) (hR:R i0) (h0:Weak H.length fr H (Ju (sets i0) (Wa 0 ks fr)) (hs i0))
  (round: ∀i,R i->QP cuts P c (Ju (sets i) (Wa 0 ks fr)) (hs i) (UT (fun fr' H'=> ∃i',R i'/\μ i'<μ i/\Weak H.length fr' H' (Ju (sets i') (Wa 0 ks fr)) (hs i')) Q)):AWP P (.loop c) fr H Q :=
 IC R (fun i=>Ju (sets i) (Wa 0 ks fr)) hs μ i0 hR h0 fun i hi=>Zf cuts _ _ _ _ (round i hi)
theorem ZD {P x y fr H Q} {I:Type} (ks:List Nat) (sets:I->List (Nat×V)) (hs:I->List Obj) (R:I->Prop)
  (h:QP [] P x fr H (UT (fun fr' H'=> ∃i,R i/\Weak H.length fr' H' (Ju (sets i) (Wa 0 ks fr)) (hs i)) Q)) (k: ∀i,R i->AWP P y (Ju (sets i) (Wa 0 ks fr)) (hs i) Q):AWP P (.seq x y) fr H Q :=
 fun F ι a w hr hf=>by
 refine wp_seq (wp_mono (Zf [] _ _ _ _ h F ι a w hr hf) ?_);rintro e a' w' ⟨fr',H',ι',q,g,f⟩
 cases e with
 | normal =>
  obtain ⟨i,hi,hw⟩:=q;obtain ⟨ι2,r2,f2,g2⟩:=hw F ι' a' w' g.rel f;refine wp_mono (k i hi F ι2 a' w' r2 f2) ?_;rintro e2 a2 w2 ⟨fr2,H2,ι3,q2,g3,f3⟩;exact ⟨fr2,H2,ι3,q2,(g2 H ι w (Zw _) g).trans g3,f3⟩
 | exit id=>exact ⟨fr',H',ι',q,g,f⟩
 | goto l=>exact ⟨fr',H',ι',q,g,f⟩
 | ret=>exact ⟨fr',H',ι',q,g,f⟩
 | panic ch=>exact ⟨fr',H',ι',q,g,f⟩
 | outgrown=>exact ⟨fr',H',ι',q,g,f⟩
theorem ZgI {H n x} :CI H n x x=(refB n x=true\/x= .junk\/ ∃y,SS H n x=some y/\x= .p y):=by
 simp only [CI,true_and,eq_iff_iff]
 grind
@[go_sem] theorem ZgG {H n x} :CI H n x .junk=True:=by simp [CI]
@[go_sem] theorem Zla {H n} {x y:PV} :CI H n (.p x) (.p y)=(y=x):=by simp [CI,refB,SS]
@[go_sem] theorem ZiK {H n o off len tot o' off' len' tot'} :CI H n (.sl o off len tot) (.sl o' off' len' tot')=((o'=o/\off'=off/\len'=len/\tot'=tot)/\o<n):=by simp [CI,refB]
@[go_sem] theorem ZgH {H n o off o' off'} :CI H n (.ptr o off) (.ptr o' off')=((o'=o/\off'=off)/\o<n):=by simp [CI,refB]
theorem oB {H n o off len tot y} :CI H n (.sl o off len tot) (.p y)=(SS H n (.sl o off len tot)=some y):=by simp [CI]
@[go_sem] theorem ZiG {H n} :Mr H n [] []=True:=by simp [Mr]
@[go_sem] theorem ZgD {H n x l x' l'} :Mr H n (x::l) (x'::l')=(CI H n x x'/\Mr H n l l'):=by simp [Mr]
@[go_sem] theorem ZiH {H n l} :Mj H n l []=True:=by simp [Mj]
@[go_sem] theorem ZgE {H n x l x' l'} :Mj H n (x::l) (x'::l')=(DD H n x x'/\Mj H n l l'):=by simp [Mj]
@[go_sem] theorem Zcw {H n cs cs'} :DD H n (.cells cs) (.cells cs')=Mr H n cs cs':=by simp [DD]
@[go_sem] theorem Zcx {H n S S' xs xs'} :DD H n (.elems S xs) (.elems S' xs')=(S=S'/\xs=xs'):=by simp [DD]
@[go_sem] theorem ZiI {H n es es2} :DD H n (.map es) (.map es2)=(es=es2):=by simp [DD]
@[go_sem] theorem Zk9 {H n o o2} :CI H n (.mp o) (.mp o2)=(o2=o/\o<n):=by simp [CI,refB,SS]
@[go_sem] theorem ZgF {H n} :DD H n .dead .dead=True:=by simp [DD]
theorem Weak.mk {n0 fr H fr' H'} (h:n0<=H'.length/\H'.length<=H.length/\Mr H H'.length fr fr'/\Mj H H'.length H H'):Weak n0 fr H fr' H':=Weak.of h.1 h.2.2.1 h.2.2.2 h.2.1
theorem wk {n0 fr H fr' H'} (h:n0<=H'.length/\H'.length<=H.length/\Mr H H'.length fr fr'/\Mj H H'.length H H':=by simp (disch:=omega) only [go_sem,seval]):Weak n0 fr H fr' H':=Weak.mk h
theorem we {n0 x H' a b} (h:n0<=List.length b/\List.length b<=H'.length/\Mr H' (List.length b) [x] [a]/\Mj H' (List.length b) H' b:=by simp (disch:=omega) only [go_sem,seval]): ∃y H'',Weak n0 [x] H' [y] H''/\y=a/\H''=b:=⟨_,_,Weak.mk h,rfl,rfl⟩
attribute [go_sem] List.length_cons List.length_nil List.cons_append List.nil_append List.append_nil List.map_cons List.map_nil List.drop_zero List.drop_succ_cons List.drop_nil List.take_succ_cons List.take_zero List.take_nil List.all_cons List.all_nil
 Xz V3 and_self true_and and_true Option.map_some Kk Dd A3 UM VN Bool.and_self ZB if_true Ys V4 Q6 IntWalk.i64_in IntWalk.i32_in IntWalk.u8_in IntWalk.u64_in IntWalk.u32_in
 beq_self_eq_true Ki List.replicate_zero Bool.or_true Bool.true_or Bool.or_false Bool.false_or Bool.not_true Km
end Go.AM
namespace Go.AM
open Go.RowKit
theorem RP.weaker {X X':Nat->Prop} {w x v} (h:RP X w x v) (hx: ∀b,X' b->X b):RP X' w x v:=h.ext (w':=w) fun _ hb hs=>⟨fun h=>hb (hx _ h),hs,rfl⟩
theorem Good.forget {F w H' ι' w'} (he:Env F [] w) (hf: ∀b,F b->b<w.heap.size) (g:Good F [] [] w H' ι' w'):Good F [] [] w [] [] w' :=
 .up he ⟨⟨rfl,fun b hb=>by have:=hf b hb;have:=g.size;omega,fun i j b hi=>by simp at hi,fun i b hi=>by simp at hi,fun o cs ho=>by simp at ho,fun o S xs ho=>by simp at ho,fun o es ho=>by simp at ho,fun o T E r bs ho=>by simp at ho⟩,
  g.os,g.tape,g.output,fun b c t h=>(g.shape b c t h).imp (fun h=>absurd h.1 Zb) id,g.size,g.keep,fun _ _ h=>h,fun o ob ho=>by simp at ho⟩
theorem ACalls.pure {P g args} {y:PV} (h:ACalls P g args [] fun x _=>x= .p y):ACalls P g args [] fun x H'=>x= .p y/\H'= []:=by
 refine ⟨h.1,fun F ι w vs hr hv=> ?_⟩;have hι:ι= []:=Yo hr.len;subst hι;refine (h.2 F [] w vs hr hv).mono ?_;rintro e w' ⟨x,H',ι',v,rfl,rfl,gd,rv⟩
 cases rv with | p _ _ rp =>
 exact ⟨_,[],[],v,rfl,⟨rfl,rfl⟩,gd.forget hr.env hr.fin,.p _ _ (rp.weaker fun b hb=> .inl (by rcases hb with hb | hb;exact hb;simp at hb))⟩
theorem D8 {F:Nat->Prop} {w w':World} {H':List Obj} {ι':List (Option Nat)} {v:Value} {o S n:Nat} {xs:List PV} (hF: ∀b,F b->b<w.heap.size) (hn:xs.length=n) (ho:oat H' o= .elems S xs)
  (gd:Good F [] [] w H' ι' w') (rv:RV F H' ι' w' (.sl o 0 n n) v): ∃ι2,Good F [] [] w [.elems S xs] ι2 w'/\RV F [.elems S xs] ι2 w' (.sl 0 0 n n) v:=by
 have hH:=Xe ho Zb;have hlt:=(ZE.1 hH).1
 have hlt':o<ι'.length:=by rw [gd.rel.len];exact hlt
 have hι':ι'[o]? =some (ι'[o]):=by simp [hlt']
 have hget: ∀ {i:Nat} {q:Option Nat},[ι'[o]][i]? =some q->i=0/\ι'[o]? =some q:=fun {i q} h=>by
  grind
 have hown: ∀b,Own F [ι'[o]] b->Own F ι' b:=fun b hb=>by
  rcases hb with hb | hb
  ·exact .inl hb
  ·simp at hb;right;rw [hb];simp
 refine ⟨[ι'[o]],⟨⟨⟨rfl,fun b hb=> ?_,fun i j b hi hj=> ?_,fun i b hi=> ?_,fun o' cs ho'=> ?_,fun o' S' xs' ho'=> ?_,fun o' es ho'=>by grind,fun o' T E r bs ho'=>by grind⟩,gd.rel.env.le hown⟩,gd.os,gd.tape,gd.output,fun b c t h=>(gd.shape b c t h).imp (fun h=>absurd h.1 Zb) id,gd.size,gd.keep,fun b hb _ h=> ?_,fun o ob ho=>by simp at ho⟩,?_⟩
 ·have:=hF b hb;have:=gd.size;omega
 ·grind
 ·exact gd.rel.avo o b (hget hi).2
 ·grind
 ·cases o' with
  | zero =>
   simp at ho';obtain ⟨rfl,rfl⟩:=ho';rcases gd.rel.elm o _ _ hH with ⟨e1,e2⟩ | ⟨b,c,t,cap,e1,e2,e3,e4,e5,e6,e7⟩
   ·grind
   ·exact .inr ⟨b,c,t,cap,by grind,e2,e3,e4,e5,e6,fun i x j y hi hj=>(e7 i x j y hi hj).weaker hown⟩
  | succ i=>simp at ho'
 ·simp at h;exact gd.own b hb Zb (by rw [h];simp)
 ·cases rv with
  | slNil _ S2 a h1 h2 =>
   rw [hH] at h2;simp at h2;obtain ⟨rfl,rfl⟩:=h2;exact .slNil 0 S a (by grind) rfl
  | sl _ _ _ _ b S2 cap t xs2 c h1 h2 ht hw hcap hl hlen hm =>
   rw [hH] at h2;simp at h2;obtain ⟨rfl,rfl⟩:=h2;exact .sl 0 0 n n b S cap t xs c (by grind) rfl hn hw hcap hl hlen hm
  | slD _ _ _ _ _ h1=>grind
  | slS _ _ _ _ _ S2 xs2 h1 hne=>grind
  | slC _ _ _ _ _ _ hd=>grind
theorem ACalls.fresh {P g args} {S n:Nat} {xs:List PV} (hn:xs.length=n) (h:ACalls P g args [] fun x H'=> ∃o,x= .sl o 0 n n/\oat H' o= .elems S xs):ACalls P g args [] fun x H'=>x= .sl 0 0 n n/\H'= [.elems S xs]:=by
 refine ⟨h.1,fun F ι w vs hr hv=> ?_⟩;have hι:ι= []:=Yo hr.len;subst hι;refine (h.2 F [] w vs hr hv).mono ?_;rintro e w' ⟨x,H',ι',v,rfl,⟨o,rfl,ho⟩,gd,rv⟩;obtain ⟨ι2,g2,r2⟩:=D8 hr.fin hn ho gd rv
 grind
theorem ACalls.freshE {P g args} {α:Type} {S:Nat} {f:α->PV} {R:List α->Prop} (h:ACalls P g args [] fun x H'=> ∃l:List α,R l/\ ∃o,x= .sl o 0 l.length l.length/\oat H' o= .elems S (l.map f)) :
  ACalls P g args [] fun x H'=> ∃l:List α,R l/\x= .sl 0 0 l.length l.length/\H'= [.elems S (l.map f)]:=by
 refine ⟨h.1,fun F ι w vs hr hv=> ?_⟩;have hι:ι= []:=Yo hr.len;subst hι;refine (h.2 F [] w vs hr hv).mono ?_;rintro e w' ⟨x,H',ι',v,rfl,⟨l,hl,o,rfl,ho⟩,gd,rv⟩;obtain ⟨ι2,g2,r2⟩:=D8 hr.fin Zb ho gd rv
 grind
theorem ACalls.frozen {P g args} {S n:Nat} {xs:List PV} (hn:xs.length=n) (h:ACalls P g args [] fun x H'=>x= .sl 0 0 n n/\H'= [.elems S xs]):ACalls P g args [] fun x H'=>x= .p (.list false xs)/\H'= []:=by
 refine ⟨h.1,fun F ι w vs hr hv=> ?_⟩;have hι:ι= []:=Yo hr.len;subst hι;refine (h.2 F [] w vs hr hv).mono ?_;rintro e w' ⟨x,H',ι',v,rfl,⟨rfl,rfl⟩,gd,rv⟩;have hk:Keeps (Own F ι') w' (Own F []) w':=fun b hb hs=>⟨fun h=>hb (.inl (by rcases h with h | h;exact h;simp at h)),hs,rfl⟩
 have:=Ao (S:=S) (xs:=xs) (off:=0) (len:=n) (tot:=n) (Own F []) (fun b hb h=>by
  rcases h with h | h
  ·exact (gd.rel.avo 0 b hb).1 h
  ·simp at h) hk gd.rel rfl hn Za rv
 rw [Xz,Dl,A4 Za] at this;exact ⟨_,[],[],v,rfl,⟨rfl,rfl⟩,gd.forget hr.env hr.fin,.p _ _ this⟩
theorem ACalls.frozenE {P g args} {α:Type} {S:Nat} {f:α->PV} {R:List α->Prop} (h:ACalls P g args [] fun x H'=> ∃l:List α,R l/\x= .sl 0 0 l.length l.length/\H'= [.elems S (l.map f)]) :
  ACalls P g args [] fun x H'=> ∃l:List α,R l/\x= .p (.list false (l.map f))/\H'= []:=by
 refine ⟨h.1,fun F ι w vs hr hv=> ?_⟩;have hι:ι= []:=Yo hr.len;subst hι;refine (h.2 F [] w vs hr hv).mono ?_;rintro e w' ⟨x,H',ι',v,rfl,⟨l,hl,rfl,rfl⟩,gd,rv⟩;have hk:Keeps (Own F ι') w' (Own F []) w':=fun b hb hs=>⟨fun h=>hb (.inl (by rcases h with h | h;exact h;simp at h)),hs,rfl⟩
 have:=Ao (S:=S) (xs:=l.map f) (off:=0) (len:=l.length) (tot:=l.length) (Own F []) (fun b hb h=>by
  rcases h with h | h
  ·exact (gd.rel.avo 0 b hb).1 h
  ·simp at h) hk gd.rel rfl Zb Za rv
 rw [Xz,Dl,A4 Zb] at this;exact ⟨_,[],[],v,rfl,⟨l,hl,rfl,rfl⟩,gd.forget hr.env hr.fin,.p _ _ this⟩
theorem ACalls.useV {P g args} {α:Type} {f:α->PV} {R:α->Prop} {H:List Obj} {K:V->List Obj->Prop} (h:ACalls P g args [] fun x H'=> ∃a:α,R a/\x= .p (f a)/\H'= []) (k: ∀a,R a->K (.p (f a)) H) (ha:Xk 0 args=true:=by rfl):ACalls P g args H K:=by
 refine (h.behind ha H).mono ?_;rintro x H' ⟨y',H1,⟨a,ra,rfl,rfl⟩,rfl,rfl⟩
 grind [shV]
theorem ACalls.useE {P g args} {α:Type} {S:Nat} {f:α->PV} {R:List α->Prop} {H:List Obj} {K:V->List Obj->Prop} (h:ACalls P g args [] fun x H'=> ∃l:List α,R l/\x= .sl 0 0 l.length l.length/\H'= [.elems S (l.map f)])
  (k: ∀l,R l->K (.sl H.length 0 l.length l.length) (H++ [.elems S (l.map f)])) (ha:Xk 0 args=true:=by rfl):ACalls P g args H K:=by
 refine (h.behind ha H).mono ?_;rintro x H' ⟨y',H1,⟨l,rl,rfl,rfl⟩,rfl,rfl⟩
 grind [shV,shO]
theorem ACalls.use {P g args} {y:PV} {H:List Obj} {K:V->List Obj->Prop} (h:ACalls P g args [] fun x H'=>x= .p y/\H'= []) (k:K (.p y) H) (ha:Xk 0 args=true:=by rfl):ACalls P g args H K:=by
 refine (h.behind ha H).mono ?_;rintro x H' ⟨y',H1,⟨rfl,rfl⟩,rfl,rfl⟩
 grind [shV]
theorem ACalls.useF {P g args} {S n:Nat} {xs:List PV} {H:List Obj} {K:V->List Obj->Prop} (h:ACalls P g args [] fun x H'=>x= .sl 0 0 n n/\H'= [.elems S xs]) (k:K (.sl H.length 0 n n) (H++ [.elems S xs])) (ha:Xk 0 args=true:=by rfl):ACalls P g args H K:=by
 refine (h.behind ha H).mono ?_;rintro x H' ⟨y',H1,⟨rfl,rfl⟩,rfl,rfl⟩
 grind [shV,shO]
theorem Zc {P:Program} {g:FuncId} {fn:Func} {c:Code} {args:List V} {y:PV} (hf:P.funcs[g]? =some fn) (hb:fn.body=some c) (hg:Zk P g)
  (h:QP [] P c (args++List.replicate (fn.ntmps-args.length) .junk) [] (An P fn.results.toList fun x _=>x= .p y)):ACalls P g args [] fun x H'=>x= .p y/\H'= [] :=
 (Yz hf hb hg (Zf [] _ _ _ _ h)).pure
theorem QI (cuts:List Nat) {P:Program} {g:FuncId} {fn:Func} {c:Code} {args:List V} {y:PV} (hf:P.funcs[g]? =some fn) (hb:fn.body=some c) (hg:Zk P g)
  (h:QP cuts P c (args++List.replicate (fn.ntmps-args.length) .junk) [] (An P fn.results.toList fun x _=>x= .p y)):ACalls P g args [] fun x H'=>x= .p y/\H'= [] :=
 (Yz hf hb hg (Zf cuts _ _ _ _ h)).pure
theorem VX {P:Program} {g:FuncId} {fn:Func} {c:Code} {args:List V} {S n:Nat} {xs:List PV} (hn:xs.length=n) (hf:P.funcs[g]? =some fn) (hb:fn.body=some c) (hg:Zk P g)
  (h:QP [] P c (args++List.replicate (fn.ntmps-args.length) .junk) [] (An P fn.results.toList fun x H'=> ∃o,x= .sl o 0 n n/\oat H' o= .elems S xs)):ACalls P g args [] fun x H'=>x= .sl 0 0 n n/\H'= [.elems S xs] :=
 (Yz hf hb hg (Zf [] _ _ _ _ h)).fresh hn
theorem Fg (cuts:List Nat) {P:Program} {g:FuncId} {fn:Func} {c:Code} {args:List V} {S n:Nat} {xs:List PV} (hn:xs.length=n) (hf:P.funcs[g]? =some fn) (hb:fn.body=some c) (hg:Zk P g)
  (h:QP cuts P c (args++List.replicate (fn.ntmps-args.length) .junk) [] (An P fn.results.toList fun x H'=> ∃o,x= .sl o 0 n n/\oat H' o= .elems S xs)):ACalls P g args [] fun x H'=>x= .sl 0 0 n n/\H'= [.elems S xs] :=
 (Yz hf hb hg (Zf cuts _ _ _ _ h)).fresh hn
theorem ZM (cuts:List Nat) {P:Program} {g:FuncId} {fn:Func} {c:Code} {args:List V} {α:Type} {S:Nat} {f:α->PV} {R:List α->Prop} (hf:P.funcs[g]? =some fn) (hb:fn.body=some c) (hg:Zk P g)
  (h:QP cuts P c (args++List.replicate (fn.ntmps-args.length) .junk) [] (An P fn.results.toList fun x H'=> ∃l:List α,R l/\ ∃o,x= .sl o 0 l.length l.length/\oat H' o= .elems S (l.map f))):ACalls P g args [] fun x H'=> ∃l:List α,R l/\x= .sl 0 0 l.length l.length/\H'= [.elems S (l.map f)] :=
 (Yz hf hb hg (Zf cuts _ _ _ _ h)).freshE
theorem Weak.ofNil {n0 fr H fr' H'} (t S:Nat) (h:gt fr t= .p (.list true [])) (hn:n0<=H.length) (k:Weak n0 (pt fr t (.sl H.length 0 0 0)) (H++ [.elems S []]) fr' H'):Weak n0 fr H fr' H' :=
 (Weak.nil t S h hn).trans k
end Go.AM
namespace Go.AM
open Go.RowKit
section
variable {P : Program} {H : List Obj} {t : TypeId} {fr : List V}
def DM (e:Option (Option Nat×Nat)) (c:Bool) (xs:List PV) (lo hi:V):Option V:=match e,lo,hi with
 | some (none,S),.p (.int _ a),.p (.int _ b)=>if AA S xs=true/\0<=a/\a<=b/\b<=xs.length then some (.p (.list (c&&decide (b=xs.length)) ((xs.take b.toNat).drop a.toNat))) else none
 | _,_,_=>none
def V.isInt : V->Option Int
 | .p (.int _ n)=>some n
 | _=>none
theorem V.isInt_some {x:V} {n} (h:x.isInt=some n): ∃k,x= .p (.int k n):=by
 unfold V.isInt at h;grind
theorem Qi {d:Int} {x:Operand} :Mn d fr (some x)=(ev fr x).isInt:=rfl
theorem BV {c xs k k' a b} :(QO P t c xs a b none).map .p=DM (YX P t) c xs (.p (.int k a)) (.p (.int k' b)):=by
 simp only [QO,DM]
 grind
theorem N9 {e c xs lo hi} (h:lo.isInt=none):DM e c xs lo hi=none:=by
 unfold DM;grind [V.isInt]
theorem N8 {e c xs lo hi} (h:hi.isInt=none):DM e c xs lo hi=none:=by
 unfold DM;grind [V.isInt]
@[go_sem] theorem ZaH {c xs hi} :Wz P H t fr (.p (.list c xs)) none (some hi) none=DM (YX P t) c xs (.p (.int .i64 0)) (ev fr hi):=by
 simp only [Wz,Qi]
 cases h:(ev fr hi).isInt with
 | none=>simp [Mn,N8 h]
 | some n=>obtain ⟨k,e⟩:=V.isInt_some h;rw [e,<- BV];rfl
@[go_sem] theorem ZaI {c xs lo} :Wz P H t fr (.p (.list c xs)) (some lo) none none=DM (YX P t) c xs (ev fr lo) (.p (.int .i64 (List.length xs))):=by
 simp only [Wz,Qi]
 cases h:(ev fr lo).isInt with
 | none=>simp [N9 h]
 | some n=>obtain ⟨k,e⟩:=V.isInt_some h;rw [e,<- BV];rfl
@[go_sem] theorem oK {c xs lo hi} :Wz P H t fr (.p (.list c xs)) (some lo) (some hi) none=DM (YX P t) c xs (ev fr lo) (ev fr hi):=by
 simp only [Wz,Qi]
 cases h:(ev fr lo).isInt with
 | none=>simp [N9 h]
 | some n =>
  cases h2:(ev fr hi).isInt with
  | none=>simp [N8 h2]
  | some m=>grind [V.isInt_some,BV]
@[go_sem] theorem Zdx {α:Type} {f:α->PV} {l:List α} {S c k k' a b} (h0:0<=a) (h1:a<=b) (h2:b<=(l.length:Int)) :
  DM (some (none,S)) c (l.map f) (.p (.int k a)) (.p (.int k' b))=if AA S (l.map f)=true then some (.p (.list (c&&decide (b=l.length)) (((l.take b.toNat).drop a.toNat).map f))) else none:=by
 simp_all [DM]
end
def Ip (P:Program) (d:Option TypeDesc) (x i:V):Option V :=
 match d,x,i with
 | some .string,.p (.str s),.p (.int _ n)=>if 0<=n then (s[n.toNat]?).map fun b=> .p (.int .u8 b.toNat) else none
 | some (.array k e),.p (.agg cs),.p (.int _ n)=>if 0<=n/\n<k then (match YO P e with | some m=>(apart P e cs (n.toNat*m)).map .p | none=>none) else none
 | _,_,_=>none
@[go_sem] theorem ZgW {P:Program} {t:TypeId} {x i:V} :Iq P t x i=Ip P (P.underlying t) x i:=Zi rfl rfl
@[go_sem] theorem Zan {P:Program} {s:List UInt8} {k n} (h0:0<=n) (h1:n<(s.length:Int)):Ip P (some .string) (.p (.str s)) (.p (.int k n))=some (.p (.int .u8 ((nth s n.toNat).toNat:Nat))):=by
 grind [Ip,Zg]
def G3 (d:Option TypeDesc) (s:List UInt8) (lo hi:V):Option V:=match d,lo,hi with
 | some .string,.p (.int _ a),.p (.int _ b)=>if 0<=a/\a<=b/\b<=s.length then some (.p (.str ((s.take b.toNat).drop a.toNat))) else none
 | _,_,_=>none
theorem iT {d s lo hi} (h:lo.isInt=none):G3 d s lo hi=none:=by
 unfold G3;grind [V.isInt]
theorem iS {d s lo hi} (h:hi.isInt=none):G3 d s lo hi=none:=by
 unfold G3;grind [V.isInt]
section
variable {P : Program} {H : List Obj} {t : TypeId} {fr : List V}
theorem PW {s:List UInt8} {k k' a b} :(match P.underlying t with | some .string=>(if 0<=a/\a<=b/\b<=(s.length:Int) then some (V.p (.str ((s.take b.toNat).drop a.toNat))) else none) | _=>none)=G3 (P.underlying t) s (.p (.int k a)) (.p (.int k' b)):=by
 simp only [G3]
 grind
@[go_sem] theorem iU {s lo hi} :Wz P H t fr (.p (.str s)) (some lo) (some hi) none=G3 (P.underlying t) s (ev fr lo) (ev fr hi):=by
 simp only [Wz,Qi]
 cases h:(ev fr lo).isInt with
 | none=>rw [iT h];simp
 | some n =>
  cases h2:(ev fr hi).isInt with
  | none=>rw [iS h2];simp
  | some m =>
   grind [V.isInt_some,PW]
def Iy (e:Option (Option Nat×Nat)) (xs:List PV) (hi mx:V):Option V:=match e,hi,mx with
 | some (none,S),.p (.int _ b),.p (.int _ m)=>if AA S xs=true/\0<=b/\b<=xs.length/\m=b then some (.p (.list true (xs.take b.toNat))) else none
 | _,_,_=>none
theorem iQ {e xs hi mx} (h:hi.isInt=none):Iy e xs hi mx=none:=by
 unfold Iy;grind [V.isInt]
theorem iR {e xs hi mx} (h:mx.isInt=none):Iy e xs hi mx=none:=by
 unfold Iy;grind [V.isInt]
@[go_sem] theorem oJ {c xs hi mx} :Wz P H t fr (.p (.list c xs)) none (some hi) (some mx)=Iy (YX P t) xs (ev fr hi) (ev fr mx):=by
 simp only [Wz,Qi]
 cases h:(ev fr hi).isInt with
 | none=>grind [iQ]
 | some n =>
  cases h2:(ev fr mx).isInt with
  | none=>grind [iR]
  | some m =>
   obtain ⟨k,e⟩:=V.isInt_some h;obtain ⟨k2,e2⟩:=V.isInt_some h2;rw [e,e2];simp only [Mn,QO,Iy]
   grind
@[go_sem] theorem Zdw {α:Type} {f:α->PV} {l:List α} {S k k' b m} (h0:m=b) (h1:b=(l.length:Int)):Iy (some (none,S)) (l.map f) (.p (.int k b)) (.p (.int k' m))=if AA S (l.map f)=true then some (.p (.list true (l.map f))) else none:=by
 subst h0;subst h1;simp only [Iy,ZB]
 by_cases h:AA S (l.map f)=true
 ·simp_all [A4]
 grind
end
@[go_sem low] theorem Tj {H:List Obj} {S b xs ys o n} :VH H (some (S,b)) (.elems S xs) o n (some ys)=if xs.length=n/\Ks S ys=true/\(n+ys.length)*b<=140737488355328/\n+ys.length<=140737488355328 then some (.sl o 0 (n+ys.length) (n+ys.length),ED H o (.elems S (xs++ys))) else none:=by simp [VH]
@[go_sem] theorem ZiJ {H:List Obj} {n f a b f' a' b'} :CI H n (.fn f a b) (.fn f' a' b')=((f'=f/\a'=a/\b'=b)/\refB n (.fn f a b)=true):=by simp [CI,SS]
@[go_sem] theorem ZhZ {n f a b} :refB n (.fn f a b)=(Xk n a&&Xk n b):=by simp [refB]
@[go_sem] theorem ZjH {n x} :refB n (.p x)=true:=by simp [refB]
@[go_sem] theorem ZfI {n o off} :refB n (.ptr o off)=decide (o<n):=by simp [refB]
@[go_sem] theorem Zh0 {n o off l t} :refB n (.sl o off l t)=decide (o<n):=by simp [refB]
@[go_sem] theorem Zbr {n} :Xk n []=true:=by simp [Xk]
@[go_sem] theorem yH {n x l} :Xk n (x::l)=(refB n x&&Xk n l):=by simp [Xk]
theorem ACalls.useH {P g args H} {v:V} {H2:List Obj} {K:V->List Obj->Prop} (h:ACalls P g args H fun x H'=>x=v/\H'=H2) (k:K v H2):ACalls P g args H K :=
 h.mono (by grind)
theorem AB {α:Type} {f:α->PV} {S:Nat} (h: ∀x,(f x).cells.length=S) (l:List α):AA S (l.map f)=true:=by
 cases l with
 | nil=>rfl
 | cons x l=>simp [AA,h]
@[go_sem] theorem Zg0 {k k'} {a b:Int} (h:b<=a):GY false [.p (.int k a),.p (.int k' b)]=some (.int k a):=by simp [GY];omega
def UY (F:Option (Nat×Nat×PV)) (H:List Obj) (x y:V):Option (V×List Obj):=match F,x,y with
 | some (S,by',z),.p (.int .i64 n),.p (.int .i64 m)=>if n=m/\0<=n/\(by':Int)*n<=281474976710656/\n<=281474976710656 then some (.sl H.length 0 n.toNat n.toNat,H++ [.elems S (List.replicate n.toNat z)]) else none
 | _,_,_=>none
theorem DJ {P:Program} {t:TypeId} {fr:List V} {H:List Obj} {x y:Operand} {F} (h:OV P t=some F):Wt P (.makeSlice t x y) fr H=UY (some F) H (ev fr x) (ev fr y):=by
 unfold OV at h
 split at h
 ·rename_i e hu
  split at h
  ·rename_i S' z' b h1 h2 h3
   split at h
   ·rename_i hc;simp at h;subst h
    have h3':(P.info? e).map (fun x=>(x.bytes:Int))=some (b:Int):=by
     cases hi:P.info? e with
     | none=>grind
     | some i=>grind
    simp only [Wt,hu,h2,hc.1,if_true,N3,h1,h3'];generalize ev fr x=X;generalize ev fr y=Y
    by_cases hX: ∃n,X= .p (.int .i64 n)
    ·obtain ⟨n,rfl⟩:=hX
     by_cases hY: ∃m,Y= .p (.int .i64 m)
     ·obtain ⟨m,rfl⟩:=hY;simp [UY,hc.2]
     ·have e1:UY (some (S',b,z')) H (.p (.int .i64 n)) Y=none:=by
       unfold UY;grind
      grind
    ·have e1:UY (some (S',b,z')) H X Y=none:=by
      unfold UY;grind
     grind
   ·cases h
  ·cases h
 ·cases h
@[go_sem] theorem Zaw {H:List Obj} {S b:Nat} {z n} (h0:0<=n) (h1:(b:Int)*n<=281474976710656) (h2:n<=281474976710656):UY (some (S,b,z)) H (.p (.int .i64 n)) (.p (.int .i64 n))=some (.sl H.length 0 n.toNat n.toNat,H++ [.elems S (List.replicate n.toNat z)]):=by
 simp_all [UY]
theorem xW (x y:Nat) (hx:x<9223372036854775808) (hy:y<9223372036854775808):IntKind.i64.wrap ((BitVec.ofInt 64 (x:Int)|||BitVec.ofInt 64 (y:Int)).toNat:Int)=((x|||y:Nat):Int):=by
 have e:(BitVec.ofInt 64 (x:Int)|||BitVec.ofInt 64 (y:Int)).toNat=x|||y:=by
  grind
 have h:x|||y<2^63:=Qa Za Za
 grind [IntWalk.i64_in]
theorem iD (x y:Nat) (hx:x<9223372036854775808) (hy:y<9223372036854775808):IntKind.i64.wrap ((BitVec.ofInt 64 (x:Int)&&&BitVec.ofInt 64 (y:Int)).toNat:Int)=((x&&&y:Nat):Int):=by
 grind [Nat.and_le_left,IntWalk.i64_in]
@[go_sem high] theorem S6 {P:Program} {t:TypeId} {x y:Nat} (hx:x<9223372036854775808) (hy:y<9223372036854775808):X9 P .or t (.p (.int .i64 (x:Int))) (.p (.int .i64 (y:Int)))=some (.int .i64 ((x|||y:Nat):Int)):=by
 rw [NZ];exact ZC (fun q=>some (PV.int .i64 q)) (xW x y hx hy)
@[go_sem high] theorem PG {P:Program} {t:TypeId} {x y:Nat} (hx:x<9223372036854775808) (hy:y<9223372036854775808):X9 P .and t (.p (.int .i64 (x:Int))) (.p (.int .i64 (y:Int)))=some (.int .i64 ((x&&&y:Nat):Int)):=by
 rw [S5];exact ZC (fun q=>some (PV.int .i64 q)) (iD x y hx hy)
def pw (k:Nat):Nat:=2^k
theorem mV (k:Nat):pw (k+1)=2*pw k:=by grind [pw]
theorem Gq {k m:Nat} (h:k<=m):pw k<=pw m:=YD Za h
theorem eD (k:Nat):0<pw k:=Nat.pow_pos Za
theorem Pd : pw 62=4611686018427387904:=by decide
@[go_sem high] theorem zW {P:Program} {t:TypeId} {k'} {a:Int} (h0:0<=a) (h1:a<=62):X9 P .shl t (.p (.int .i64 1)) (.p (.int k' a))=some (.int .i64 ((pw a.toNat:Nat):Int)):=by
 rw [S7 h0]
 have h2:min a.toNat IntKind.i64.bits=a.toNat:=by show min a.toNat 64=a.toNat;omega
 rw [h2,Int.one_mul]
 have h3:((2:Int)^a.toNat)=((pw a.toNat:Nat):Int):=by simp [pw]
 rw [h3];have:=Gq (show a.toNat<=62 by omega)
 grind [Pd,IntWalk.i64_in]
attribute [go_sem] List.length_append List.map_append not_false_eq_true not_true_eq_false false_and and_false true_or or_true false_or or_false Classical.not_not Bool.false_eq_true Bool.and_false Bool.false_and
end Go.AM
namespace Go.AM
open Go.RowKit
theorem Hq {P ds frJ H} {K K':List V->Prop} : ∀(l:List Oper) (i:Nat) (vals:List V),(∀ys,ys.length=vals.length+l.length->K ys->K' ys)->hd P ds frJ H K i l vals->hd P ds frJ H K' i l vals
 | [],i,vals,hk,h=>hk vals rfl h
 | o::l,i,vals,hk,h=>by
  have ih: ∀y,hd P ds frJ H K (i+1) l (vals++ [y])->hd P ds frJ H K' (i+1) l (vals++ [y]):=fun y=>Hq l (i+1) (vals++ [y]) fun ys hy=>hk ys (by simp at hy ⊢;omega);simp only [hd] at h ⊢
  split at h
  ·obtain ⟨y,h1,h2⟩:=h;exact ⟨y,h1,ih y h2⟩
  ·unfold Xv at h ⊢
   split at h
   ·exact ⟨fun e=>by obtain ⟨y,h1,h2⟩:=h.1 e;exact ⟨y,h1,ih y h2⟩,fun e=>ih _ (h.2 e)⟩
   ·exact ih _ h
   ·exact h.elim
def hall : List (Option Nat)->List V->List V->List V
 | some d::ds,v::vals,fr=>hall ds vals (pt fr d v)
 | none::ds,_::vals,fr=>hall ds vals fr
 | _,_,fr=>fr
theorem Ad (d:Option Nat) (v:V) (ds:List (Option Nat)) (vals:List V): ∀(l:List Nat) (fr:List V),ZJ (d::ds) (v::vals) (l.map (· +1)) fr=ZJ ds vals l fr
 | [],fr=>rfl
 | j::l,fr=>by
  simp only [Zt,ZJ,A3]
  split<;>exact Ad d v ds vals l _
theorem Ee : ∀(ds:List (Option Nat)) (vals:List V) (fr:List V),vals.length=ds.length->ZJ ds vals (List.range ds.length) fr=hall ds vals fr
 | [],[],fr,_=>rfl
 | d::ds,v::vals,fr,h=>by
  have ih:=fun fr=>Ee ds vals fr (by simpa using h);rw [ZL,List.range_succ_eq_map]
  cases d with
  | none=>simp only [ZJ,Dd,hall];rw [Ad];exact ih fr
  | some d=>simp only [ZJ,Dd,hall];rw [Ad];exact ih _
 | [],_::_,_,h=>by simp at h
 | _::_,[],_,h=>by simp at h
theorem DO {P:Program} {id:Nat} {l:List Oper} {fr:List V} {H:List Obj} {Q:Exit->List V->List Obj->Prop} {t} (hm:P.follows .mixedOrders=true) (hB:Vy (List.toArray l) l.length=true)
  (h:hd P (l.map (·.dst)) (Z3 (l.map (·.dst)) fr) H (Zq (fun vals=>Q .normal (hall (l.map (·.dst)) vals (Z3 (l.map (·.dst)) fr)) H) ⟨⟩) 0 l []) :
  AWP P (.region id (Zq (List.toArray l) t) true) fr H Q:=by
 refine FE (ops:=List.toArray l) l.length hm hB ?_;have e0:(List.toArray l).toList=l:=rfl;rw [e0];have e1:(l.map (fun x=>Oper.dst x)).take l.length=l.map (·.dst):=A4 Zb;have e2:l.take l.length=l:=X5
 have e3:l.drop l.length= []:=Zb
 rw [e1,e2,e3];refine Hq _ _ _ (fun ys hy hk=> ?_) h;have e4:=Ee (l.map (·.dst)) ys (Z3 (l.map (·.dst)) fr) (by grind);rw [ZB] at e4;simp only [Yv];rw [e4];exact hk
def SR (A:V->Prop) (B:V->Prop):Prop:= ∃y,A y/\B y
section
variable {P : Program} {ds : List (Option Nat)} {frJ : List V} {H : List Obj} {K : List V -> Prop} {i : Nat} {r : List Oper} {vals : List V} {d : Option Nat} {op : Op} {t : TypeId} {ps : String} {af : Array Edge}
@[go_sem ↓] theorem Zji : hd P ds frJ H K i [] vals=K vals:=Zi rfl rfl
@[go_sem ↓] theorem ZhC : hd P ds frJ H K i (⟨d,op,t,ps,af,none⟩::r) vals=SR (fun y=>Zx P ⟨d,op,t,ps,af,none⟩ (Mp (ZJ ds vals (ZN i ⟨d,op,t,ps,af,none⟩) frJ)) H (Zq (fun x H'=>x=y/\H'=H) ⟨⟩)) (Zq (fun y=>hd P ds frJ H K (i+1) r (vals++ [y])) ⟨⟩):=Zi rfl rfl
@[go_sem ↓, go_sem] theorem Zi8 {v:V} {B:V->Prop} {t} :SR (fun y=>v=y) (Zq B t)=B v:=by simp [SR,Zq]
@[go_sem] theorem Za1 {l:List Edge} {g} :ZN i ⟨d,op,t,ps,List.toArray l,g⟩=(l.filter fun e=>Region.binds .any e&&decide (e.on<i)).map (·.on):=Zi rfl rfl
@[go_sem] theorem rV {on} :Region.binds .any ⟨on,.data⟩=true:=Zi rfl rfl
@[go_sem] theorem oY {on} :Region.binds .any ⟨on,.phase⟩=true:=Zi rfl rfl
@[go_sem] theorem oX {on} :Region.binds .any ⟨on,.chain⟩=true:=Zi rfl rfl
@[go_sem] theorem rW {on k} :Region.binds .any ⟨on,.textOnly k⟩=false:=Zi rfl rfl
@[go_sem] theorem ZdF {on k} :Region.binds .any ⟨on,.gcOnly k⟩=false:=Zi rfl rfl
def OH (ds:List (Option Nat)) (vals:List V) (l:List Nat) (fr:List V) (a:Option (Option Nat)) (v:Option V):List V:=match a,v with
 | some (some d),some v=>ZJ ds vals l (pt fr d v)
 | _,_=>ZJ ds vals l fr
@[go_sem] theorem Zee {fr} :ZJ ds vals [] fr=fr:=Zi rfl rfl
@[go_sem] theorem Zbb {j l fr} :ZJ ds vals (j::l) fr=OH ds vals l fr ds[j]? vals[j]? :=by rfl
@[go_sem] theorem sX {l fr d v} :OH ds vals l fr (some (some d)) (some v)=ZJ ds vals l (pt fr d v):=Zi rfl rfl
@[go_sem] theorem Za5 {d ds v vals fr} :hall (some d::ds) (v::vals) fr=hall ds vals (pt fr d v):=Zi rfl rfl
@[go_sem] theorem Zd8 {fr} :hall [] [] fr=fr:=Zi rfl rfl
@[go_sem] theorem Zba {fr} :Z3 [] fr=fr:=Zi rfl rfl
@[go_sem] theorem sW {d l fr} :Z3 (some d::l) fr=Z3 l (pt fr d .junk):=Zi rfl rfl
theorem Zo {f azs} {z:PV} {B:V->Prop} {t} (h:ACalls P f azs [] fun x H'=>x= .p z/\H'= []) (k:B (.p z)) (ha:Xk 0 azs=true:=by rfl) :
  SR (fun y=>ACalls P f azs H (Zq (Zq (fun x H'=>x=y/\H'=H) ⟨⟩) ⟨⟩)) (Zq B t) :=
 ⟨.p z,h.use ⟨rfl,rfl⟩ ha,k⟩
end
section
variable {P : Program} {fr : List V} {H : List Obj} {k : V -> List Obj -> Prop} {d : Option Nat} {t : TypeId} {ps : String} {af : Array Edge} {g : Option (Nat × Bool)}
@[go_sem ↓] theorem rI {u n l} :Zx P ⟨d,.buildSlice u n (List.toArray l),t,ps,af,g⟩ fr H k=Ak ((N1 (V5 P u) H n (l.map fun x=>(x.1,ev fr x.2))).map .p) (Zq (fun v=>k v H) ⟨⟩):=by
 grind [Zx,Ak,Zq]
@[go_sem] theorem qP {S n l} :N1 (some S) H n l=if n=l.length/\n*S<=16777216/\0<S then (Qw H S 0 l).map (.list false) else none:=Zi rfl rfl
@[go_sem ↓] theorem oN {x} :Zx P ⟨d,.move x,t,ps,af,g⟩ fr H k=Zv P ⟨d,.move x,t,ps,af,g⟩ fr H k:=rfl
@[go_sem ↓] theorem gN {x} :Zx P ⟨d,.assign x,t,ps,af,g⟩ fr H k=Zv P ⟨d,.assign x,t,ps,af,g⟩ fr H k:=rfl
@[go_sem ↓] theorem oO {x y z} :Zx P ⟨d,.pick x y z,t,ps,af,g⟩ fr H k=Zv P ⟨d,.pick x y z,t,ps,af,g⟩ fr H k:=rfl
@[go_sem ↓] theorem iV {x} :Zx P ⟨d,.alloc x,t,ps,af,g⟩ fr H k=Zv P ⟨d,.alloc x,t,ps,af,g⟩ fr H k:=rfl
@[go_sem ↓] theorem rG {x y} :Zx P ⟨d,.box x y,t,ps,af,g⟩ fr H k=Zv P ⟨d,.box x y,t,ps,af,g⟩ fr H k:=rfl
@[go_sem ↓] theorem iX {x y} :Zx P ⟨d,.build x y,t,ps,af,g⟩ fr H k=Zv P ⟨d,.build x y,t,ps,af,g⟩ fr H k:=rfl
@[go_sem ↓] theorem oM {x y} :Zx P ⟨d,.load x y,t,ps,af,g⟩ fr H k=Zv P ⟨d,.load x y,t,ps,af,g⟩ fr H k:=rfl
@[go_sem ↓] theorem jB {x y z} :Zx P ⟨d,.store x y z,t,ps,af,g⟩ fr H k=Zv P ⟨d,.store x y z,t,ps,af,g⟩ fr H k:=rfl
@[go_sem ↓] theorem SM {x} :Zx P ⟨d,.nilCheck x,t,ps,af,g⟩ fr H k=Zv P ⟨d,.nilCheck x,t,ps,af,g⟩ fr H k:=rfl
@[go_sem ↓] theorem iW {x y z u v} :Zx P ⟨d,.binOp x y z u v,t,ps,af,g⟩ fr H k=Zv P ⟨d,.binOp x y z u v,t,ps,af,g⟩ fr H k:=rfl
@[go_sem ↓] theorem oP {x y z} :Zx P ⟨d,.unOp x y z,t,ps,af,g⟩ fr H k=Zv P ⟨d,.unOp x y z,t,ps,af,g⟩ fr H k:=rfl
@[go_sem ↓] theorem To {x y z} :Zx P ⟨d,.convert x y z,t,ps,af,g⟩ fr H k=Zv P ⟨d,.convert x y z,t,ps,af,g⟩ fr H k:=rfl
@[go_sem ↓] theorem SL {x y z} :Zx P ⟨d,.makeFunc x y z,t,ps,af,g⟩ fr H k=Zv P ⟨d,.makeFunc x y z,t,ps,af,g⟩ fr H k:=rfl
@[go_sem ↓] theorem PZ {x y z} :Zx P ⟨d,.makeSlice x y z,t,ps,af,g⟩ fr H k=Zv P ⟨d,.makeSlice x y z,t,ps,af,g⟩ fr H k:=rfl
@[go_sem ↓] theorem jA {x y z u v} :Zx P ⟨d,.slice x y z u v,t,ps,af,g⟩ fr H k=Zv P ⟨d,.slice x y z u v,t,ps,af,g⟩ fr H k:=rfl
@[go_sem ↓] theorem PX {x y z} :Zx P ⟨d,.fieldAddr x y z,t,ps,af,g⟩ fr H k=Zv P ⟨d,.fieldAddr x y z,t,ps,af,g⟩ fr H k:=rfl
@[go_sem ↓] theorem iY {x y z} :Zx P ⟨d,.field x y z,t,ps,af,g⟩ fr H k=Zv P ⟨d,.field x y z,t,ps,af,g⟩ fr H k:=rfl
@[go_sem ↓] theorem PY {x y z} :Zx P ⟨d,.indexAddr x y z,t,ps,af,g⟩ fr H k=Zv P ⟨d,.indexAddr x y z,t,ps,af,g⟩ fr H k:=rfl
@[go_sem ↓] theorem iZ {x y z} :Zx P ⟨d,.index x y z,t,ps,af,g⟩ fr H k=Zv P ⟨d,.index x y z,t,ps,af,g⟩ fr H k:=rfl
@[go_sem ↓] theorem Tq {x y} :Zx P ⟨d,.extract x y,t,ps,af,g⟩ fr H k=Zv P ⟨d,.extract x y,t,ps,af,g⟩ fr H k:=rfl
@[go_sem ↓] theorem oL {x y z} :Zx P ⟨d,.call ⟨.value x,y,z⟩,t,ps,af,g⟩ fr H k=Zv P ⟨d,.call ⟨.value x,y,z⟩,t,ps,af,g⟩ fr H k:=rfl
@[go_sem ↓] theorem rH {y z} :Zx P ⟨d,.call ⟨.builtin .len,y,z⟩,t,ps,af,g⟩ fr H k=Zv P ⟨d,.call ⟨.builtin .len,y,z⟩,t,ps,af,g⟩ fr H k:=rfl
@[go_sem ↓] theorem rJ {y z} :Zx P ⟨d,.call ⟨.builtin .max,y,z⟩,t,ps,af,g⟩ fr H k=Zv P ⟨d,.call ⟨.builtin .max,y,z⟩,t,ps,af,g⟩ fr H k:=rfl
@[go_sem ↓] theorem rK {y z} :Zx P ⟨d,.call ⟨.builtin .min,y,z⟩,t,ps,af,g⟩ fr H k=Zv P ⟨d,.call ⟨.builtin .min,y,z⟩,t,ps,af,g⟩ fr H k:=rfl
def Ow (P:Program) (H:List Obj) (t u:TypeId) (x y:V) (k:V->List Obj->Prop):Prop:= ∃S zs,WQ P H t u x y=some (.sl H.length 0 zs.length zs.length,H++ [.elems S zs])/\k (.p (.list false zs)) H
@[go_sem ↓] theorem gM {x y u u2} :Zx P ⟨d,.call ⟨.builtin .append,#[x,y],#[u,u2]⟩,t,ps,af,g⟩ fr H k=Ow P H u u2 (ev fr x) (ev fr y) (Zq k ⟨⟩):=rfl
def PQ (F:Option (Nat×Nat)) (xs:List PV) (ys:Option (List PV)):Option PV:=match F,ys with
 | some (S,by'),some ys=>if Ks S ys=true/\Ks S xs=true/\(xs= []\/0<ys.length)/\(xs.length+ys.length)*by'<=140737488355328/\xs.length+ys.length<=140737488355328 then some (.list false (xs++ys)) else none
 | _,_=>none
@[go_sem] theorem ZaG {α:Type} {S b} {f:α->PV} {l:List α} {x:PV} (hb:(l.length+1)*b<=140737488355328) (hb2:l.length+1<=140737488355328):PQ (some (S,b)) (l.map f) (some [x])=if Ks S [x]=true/\Ks S (l.map f)=true then some (.list false (l.map f++ [x])) else none:=by
 grind [PQ]
theorem MW {u u2:TypeId} {F} {xs:List PV} {y:V} (hF:Qm P u=some F) {tt} :Ow P H u u2 (.p (.list true xs)) y (Zq k tt)=Ak ((PQ (some F) xs (YL (P.underlying u2) H y)).map .p) (Zq (fun v=>k v H) ⟨⟩):=by
 obtain ⟨S,by'⟩:=F;obtain ⟨e,z,h1,h2,h3,h4,h6⟩:=DL hF;have e1:YL (P.underlying u2) H y=Fh P H u2 y:=Zi rfl rfl;rw [e1];unfold Ow Zq
 cases h5:Fh P H u2 y with
 | none =>
  grind [WQ,PQ,Ak]
 | some ys =>
  rw [GQ h1 h2 h3 h4 h5 h6];simp only [PQ]
  by_cases hc:Ks S ys=true
  ·rw [if_pos hc];simp only [hc,true_and]
   by_cases hd:Ks S xs=true/\(xs= []\/0<ys.length)/\(xs.length+ys.length)*by'<=140737488355328/\xs.length+ys.length<=140737488355328
   ·rw [if_pos hd,if_pos hd];simp only [Option.map_some,Ak,eq_iff_iff]
    constructor
    ·simp_all
    ·intro hk;exact ⟨S,xs++ys,Zb,hk⟩
   simp_all [if_neg,Ak]
  ·simp [hc,Ak]
theorem G5 {o fr' H'} (h:fr=fr') (h2:H=H'):Zx P o fr H k=Zx P o fr' H' k:=by rw [h,h2]
end
attribute [congr] G5
attribute [go_sem] List.filter_cons List.filter_nil
end Go.AM
namespace Go.AM
open Go.RowKit
mutual
/-- no memory in it -/
def M3 : PV->Bool
 | .list _ xs=>xs.isEmpty
 | .agg cs=>I2 cs
 | _=>true
def I2 : List PV->Bool
 | []=>true
 | x::l=>M3 x&&I2 l
end
theorem Kb : ∀ {l:List PV},I2 l=true-> ∀(j:Nat) (x:PV),l[j]? =some x->M3 x=true
 | [],_,j,x,h=>by simp at h
 | y::l,hh,j,x,h=>by
  simp [I2] at hh
  cases j with
  | zero=>simp at h;subst h;exact hh.1
  | succ j=>exact Kb hh.2 j x (by simpa using h)
theorem RP.anywhere {X X':Nat->Prop} {w w' x v} (h:RP X w x v) (hf:M3 x=true):RP X' w' x v:=by
 induction h with
 | int k n=>exact .int k n
 | bool b=>exact .bool b
 | str s=>exact .str s
 | nilp=>exact .nilp
 | nili=>exact .nili
 | nilf=>exact .nilf
 | nilm=>exact .nilm
 | fn f=>exact .fn f
 | nils cl=>exact .nils cl
 | emp cl a cap hc hm ha=>exact .emp cl a cap hc hm ha
 | list cl xs b off cap S u hX hb hc hm hcl hS hu hr ih =>
  have:xs= []:=by grind [M3]
  subst this;exact .emp cl _ cap (fun h=>by grind) hm (fun _ x hx=>by grind)
 | agg cs a hs _ ih=>exact .agg cs a hs fun j c hj=>ih j c hj (Kb (by grind [M3]) j c hj)
def vw (H:List Obj):V->Option V
 | .p x=>some (.p x)
 | .fn f [] []=>some (.fn f [] [])
 | .sl o off len tot=>match oat H o with
  | .elems _ xs=>if xs.length=tot/\off+len<=tot then some (.p (.list false ((xs.take (off+len)).drop off))) else none
  | _=>none
 | _=>none
def vws (H:List Obj):List V->Option (List V)
 | []=>some []
 | x::l=>match vw H x,vws H l with | some y,some ys=>some (y::ys) | _,_=>none
abbrev KK : Nat->Prop:=fun _=>False
theorem Bt {b:Nat} : ¬Own KK [] b:=by simp [Own]
theorem ZfM {F H ι w x v y} (hr:Rel F H ι w) (h:RV F H ι w x v) (hy:vw H x=some y):RV KK [] [] w y v:=by
 unfold vw at hy
 split at hy
 ·simp at hy;subst hy
  cases h with | p _ _ h=>exact .p _ _ (h.weaker fun b hb=>absurd hb Bt)
 ·simp at hy;subst hy;generalize v=u at h
  cases h with
  | fn _ _ _ a e hs ht _ _=>exact .fn _ [] [] a e hs ht (fun j c hj=>by simp at hj) (fun j c hj=>by simp at hj)
 ·rename_i o off len tot
  split at hy
  ·rename_i S xs ho
   split at hy
   ·rename_i hc;simp at hy;subst hy;exact .p _ _ (Ao _ (fun b _ hb=>Bt hb) (fun b _ hs=>⟨Bt,hs,rfl⟩) hr (Xe ho Zb) hc.1 hc.2 h)
   ·cases hy
  ·cases hy
 ·cases hy
theorem PB {H} : ∀ {l l':List V},vws H l=some l'->l'.length=l.length/\ ∀(j:Nat) (y:V),l'[j]? =some y-> ∃x,l[j]? =some x/\vw H x=some y
 | [],l',h=>by simp [vws] at h;grind
 | x::l,l',h=>by
  simp only [vws] at h
  split at h
  ·rename_i y ys h1 h2;simp at h;subst h;obtain ⟨e,hg⟩:=PB h2;refine ⟨by simp [e],fun j z hj=> ?_⟩
   cases j with
   | zero=>simp at hj;subst hj;exact ⟨x,Zb,h1⟩
   | succ j=>obtain ⟨q,q1,q2⟩:=hg j z (by simpa using hj);exact ⟨q,by simpa using q1,q2⟩
  ·cases h
theorem Good.lift {F H ι w H1 ι1 w'} (hr:Rel F H ι w) (g:Good KK [] [] w H1 ι1 w') (h1: ∀(o:Nat) (ob:Obj),H1[o]? =some ob-> ∃S xs,ob= .elems S xs/\I2 xs=true):Good (Own F ι) [] [] w H1 ι1 w':=by
 have hnew: ∀b,some b∈ι1-> ¬b<w.heap.size:=fun b hb hlt=>g.own b hlt Zb hb
 have hold: ∀b,Own F ι b->b<w.heap.size:=fun b hb=>by
  rcases hb with hb | hb
  ·exact hr.fin b hb
  ·obtain ⟨i,hi⟩:=Xa.1 hb;exact (hr.avo i b hi).2
 refine Good.up hr.env.fresh ⟨⟨g.rel.len,fun b hb=>by have:=hold b hb;have:=g.size;omega,g.rel.inj,fun i b hi=> ?_,fun o cs ho=> ?_,fun o S xs ho=> ?_,fun o es ho=>(by grind),fun o T E r bs ho=>(by grind)⟩,g.os,g.tape,g.output,g.shape,g.size,g.keep,g.own,g.hx⟩
 ·refine ⟨fun hb=>hnew b (Xi hi) (hold b hb),(g.rel.avo i b hi).2⟩
 ·grind
 ·rcases g.rel.elm o S xs ho with e | ⟨b,c,t,cap,e1,e2,e3,e4,e5,e6,e7⟩
  ·exact .inl e
  ·refine .inr ⟨b,c,t,cap,e1,e2,e3,e4,e5,e6,fun i x j y hi hj=> ?_⟩;obtain ⟨S',xs',e,hf⟩:=h1 o _ ho;simp at e;obtain ⟨rfl,rfl⟩:=e;have hx:=Kb hf i x hi;refine (e7 i x j y hi hj).anywhere ?_
   cases x<;>simp only [PV.cells] at hj
   case agg cs=>grind [Kb,M3]
   all_goals (cases j with
    | zero=>simp at hj;subst hj;exact hx
    | succ j=>simp at hj)
theorem EN {w:World} (he:Env KK [] w):Rel KK [] [] w:=⟨⟨rfl,fun b hb=>hb.elim,fun i j b hi=>by simp at hi,fun i b hi=>by simp at hi,fun o cs ho=>by simp at ho,fun o S xs ho=>by simp at ho,fun o es ho=>by simp at ho,fun o T E r bs ho=>by simp at ho⟩,he⟩
theorem ACalls.view {P g args args'} {y:PV} {H:List Obj} {K:V->List Obj->Prop} (h:ACalls P g args' [] fun x H'=>x= .p y/\H'= []) (hv:vws H args=some args') (hy:M3 y=true) (k:K (.p y) H):ACalls P g args H K:=by
 refine ⟨h.1,fun F ι w vs hr hvs=> ?_⟩;obtain ⟨e,hg⟩:=PB hv;refine (h.2 KK [] w vs (EN hr.env.noth) ⟨by rw [hvs.1,e],fun j c hj=> ?_⟩).mono ?_
 ·obtain ⟨x,h1,h2⟩:=hg j c hj;exact ZfM hr (hvs.2 j x h1) h2
 ·rintro e w' ⟨x,H',ι',v,rfl,⟨rfl,rfl⟩,gd,rv⟩;have g2:=(gd.lift hr (fun o ob ho=>by simp at ho)).behind hr;have hι:ι'= []:=Yo gd.rel.len;subst hι;simp only [Zm,VM] at g2
  cases rv with | p _ _ rp =>
  exact ⟨_,H,ι,v,rfl,k,g2,.p _ _ (rp.anywhere hy)⟩
def rd1 (H:List Obj):V->Option PV
 | .p x=>some x
 | .sl o off len tot=>match oat H o with
  | .elems _ xs=>if xs.length=tot/\off+len<=tot then some (.list false ((xs.take (off+len)).drop off)) else none
  | _=>none
 | _=>none
def rds (H:List Obj):List V->Option (List PV)
 | []=>some []
 | x::l=>match rd1 H x,rds H l with | some y,some ys=>some (y::ys) | _,_=>none
def rd (H:List Obj):V->Option PV
 | .agg cs=>(rds H cs).map .agg
 | x=>rd1 H x
@[go_sem] theorem ZgY {o off len tot r} :UX (.sl o off len tot::r)=none:=Zi rfl rfl
attribute [go_sem] Option.map_none
end Go.AM
namespace Go.Proofs.YtjkkdmeebhjaiaaGreatDoor.K
open Go Go.AM
def Ed (be:List (Int×Int)) (a b:Nat):Prop:= ∃p∈be,p.1=(a:Int)/\p.2=(b:Int)
inductive Ch (be:List (Int×Int)):Nat->Nat->Prop where
 | one {a b} (h:Ed be a b):Ch be a b
 | more {a b c} (h:Ch be a b) (k:Ed be b c):Ch be a c
def Val (n:Nat) (be:List (Int×Int)):Prop:= ∀p∈be,0<=p.1/\p.1<n/\0<=p.2/\p.2<n
def C0 (out:List Nat) (p:Int×Int):List Nat:=out.set p.2.toNat (nth out p.2.toNat|||nth out p.1.toNat|||pw p.1.toNat)
def Dv (out:List Nat) (be:List (Int×Int)):List Nat:=be.foldl C0 out
structure Snd (n:Nat) (be:List (Int×Int)) (out:List Nat):Prop where
 len:out.length=n
 lt: ∀b,b<n->nth out b<pw n
 snd: ∀a b,b<n->(nth out b).testBit a=true->Ch be a b
structure Clo (n:Nat) (be:List (Int×Int)) (out:List Nat):Prop extends Snd n be out where
 cmp: ∀a b,Ch be a b->(nth out b).testBit a=true
theorem Dp (l:List Nat) (i j v:Nat) (h:j<l.length):nth (l.set i v) j=if i=j then v else nth l j:=by
 grind [nth]
theorem Snd.zero (n be):Snd n be (List.replicate n 0):=by
 refine ⟨Zb,fun b hb=> ?_,fun a b hb h=> ?_⟩
 ·grind [Zg,eD]
 grind [Zg]
theorem Au (a b:Nat):(pw a).testBit b=decide (a=b):=by grind [pw]
theorem Snd.step {n be out} (hv:Val n be) (hs:Snd n be out) {p} (hp:p∈be):Snd n be (C0 out p):=by
 obtain ⟨h1,h2,h3,h4⟩:=hv p hp;refine ⟨by simp [C0,hs.len],fun b hb=> ?_,fun a b hb h=> ?_⟩
 ·rw [C0,Dp _ _ _ _ (by rw [hs.len];exact hb)]
  split
  ·have e1:=hs.lt p.2.toNat Za;have e2:=hs.lt p.1.toNat Za
   have e3:pw p.1.toNat<pw n:=by
    have:=mV p.1.toNat;have h5:pw (p.1.toNat+1)<=pw n:=Gq Za;omega
   exact Qa (Qa e1 e2) e3
  ·exact hs.lt b hb
 ·rw [C0,Dp _ _ _ _ (by rw [hs.len];exact hb)] at h
  split at h
  ·rename_i hb2;have hE:Ed be p.1.toNat b:=⟨p,hp,Za,Za⟩;simp only [Kn,Vk] at h;rcases h with (h | h) | h
   ·exact hs.snd a b hb (by grind)
   ·exact (hs.snd a _ Za h).more hE
   ·rw [Au] at h;simp at h;subst h;exact .one hE
  ·exact hs.snd a b hb h
theorem Snd.rnd {n be out} (hv:Val n be) (hs:Snd n be out): ∀(l:List (Int×Int)),(∀p∈l,p∈be)->Snd n be (Dv out l):=by
 intro l
 induction l generalizing out with
 | nil=>intro _;exact hs
 | cons p l ih=>intro h;exact ih (hs.step hv (h p Zb)) fun q hq=>h q (by simp [hq])
theorem pO (x y:Nat):x<=x|||y:=Nat.left_le_or
def tot (l:List Nat):Nat:=l.foldr (· + ·) 0
theorem Px : ∀(l:List Nat) (i v:Nat),i<l.length->tot (l.set i v)+nth l i=tot l+v
 | [],i,v,h=>by simp at h
 | x::l,0,v,h=>by simp [tot,nth];omega
 | x::l,i+1,v,h=>by
  have:=Px l i v (by simpa using h);simp only [Z7,tot,List.foldr_cons,nth,List.getD_cons_succ] at this ⊢;omega
theorem fV : ∀(l:List Nat) (m:Nat),(∀i,i<l.length->nth l i<m)->tot l<=l.length*m
 | [],m,h=>by simp [tot]
 | x::l,m,h=>by
  have h0:=h 0 Zb
  have:=fV l m fun i hi=>by have:=h (i+1) (by grind);grind [nth]
  grind [tot,Xo,nth]
theorem Oo (out:List Nat) (p:Int×Int) (h:p.2.toNat<out.length):tot out<=tot (C0 out p)/\(tot (C0 out p)=tot out->C0 out p=out):=by
 have e:=Px out p.2.toNat (nth out p.2.toNat|||nth out p.1.toNat|||pw p.1.toNat) h;have h1:nth out p.2.toNat<=nth out p.2.toNat|||nth out p.1.toNat|||pw p.1.toNat:=UO (pO _ _) (pO _ _);refine ⟨by rw [C0];omega,fun he=> ?_⟩;rw [C0] at he ⊢
 have:nth out p.2.toNat|||nth out p.1.toNat|||pw p.1.toNat=nth out p.2.toNat:=Za
 simp_all [Zg]
theorem Np (out l m):Dv out (l++m)=Dv (Dv out l) m:=by grind [Dv]
theorem Bu {n be} (hv:Val n be): ∀(l:List (Int×Int)) (out:List Nat),(∀p∈l,p∈be)->Snd n be out->tot out<=tot (Dv out l)/\(tot (Dv out l)=tot out->Dv out l=out/\ ∀p∈l,C0 out p=out)
 | [],out,_,_=>⟨Zw _,fun _=>⟨rfl,fun p hp=>by simp at hp⟩⟩
 | p::l,out,hl,hs=>by
  obtain ⟨h1,h2,h3,h4⟩:=hv p (hl p Zb);have c:=Oo out p (by rw [hs.len];omega);have r:=Bu hv l (C0 out p) (fun q hq=>hl q (by simp [hq])) (hs.step hv (hl p Zb));refine ⟨UO c.1 r.1,fun e=> ?_⟩;have e:tot (Dv (C0 out p) l)=tot out:=e
  have e1:tot (C0 out p)=tot out:=Za
  have e2:=c.2 e1
  have e3:tot (Dv (C0 out p) l)=tot (C0 out p):=Za
  obtain ⟨e4,e5⟩:=r.2 e3;rw [e2] at e4 e5;refine ⟨by grind [Dv],fun q hq=> ?_⟩
  grind
theorem Snd.clo {n be out} (hv:Val n be) (hs:Snd n be out) (h:tot (Dv out be)=tot out):Clo n be out:=by
 have hc:=((Bu hv be out (fun _ h=>h) hs).2 h).2
 have key: ∀p∈be,∀a,(a=p.1.toNat\/(nth out p.1.toNat).testBit a=true)->(nth out p.2.toNat).testBit a=true:=fun p hp a ha=>by
  obtain ⟨h1,h2,h3,h4⟩:=hv p hp;have e:=hc p hp
  have e2:nth (C0 out p) p.2.toNat=nth out p.2.toNat:=by rw [e]
  rw [C0,Dp _ _ _ _ (by rw [hs.len];omega)] at e2;simp only [if_true] at e2;rw [<- e2];simp only [Kn,Vk,Au,Zp]
  grind
 refine ⟨hs,fun a b hab=> ?_⟩
 induction hab with
 | one h =>
  obtain ⟨p,hp,e1,e2⟩:=h;have:=key p hp p.1.toNat (.inl rfl)
  grind
 | more _ h ih =>
  obtain ⟨p,hp,e1,e2⟩:=h;have:=key p hp _ (.inr (by rw [e1];exact ih))
  grind
theorem Clo.uniq {n be out out'} (hv:Val n be) (h:Clo n be out) (h':Clo n be out'):out=out':=by
 apply Us (by rw [h.len,h'.len]);intro b h1 h2;rw [<- Zg h1,<- Zg h2];apply Dj;intro a;rw [W1];rw [h.len] at h1;exact ⟨fun e=>h'.cmp a b (h.snd a b h1 e),fun e=>h.cmp a b (h'.snd a b h1 e)⟩
theorem Snd.bound {n be out} (hs:Snd n be out):tot out<=n*pw n:=by
 have:=fV out (pw n) fun i hi=>hs.lt i (by rw [<- hs.len];exact hi);rwa [hs.len] at this
theorem TP {n be} (hv:Val n be): ∀(k:Nat) (out:List Nat),Snd n be out->n*pw n-tot out<k-> ∃out',Clo n be out'
 | 0,out,_,h=>Za
 | k+1,out,hs,h=>by
  by_cases he:tot (Dv out be)=tot out
  ·exact ⟨out,hs.clo hv he⟩
  ·have hp:=hs.rnd hv be fun _ h=>h;have:=hp.bound;have:=(Bu hv be out (fun _ h=>h) hs).1;exact TP hv k (Dv out be) hp Za
noncomputable def Jn (n:Nat) (be:List (Int×Int)):List Nat:=open Classical in if h: ∃out,Clo n be out then h.choose else []
theorem DV {n be} (hv:Val n be):Clo n be (Jn n be):=by
 have h:=TP hv _ (List.replicate n 0) (Snd.zero n be) (Nat.lt_succ_self _);rw [Jn,dif_pos h]
 grind
theorem TO {n be out} (hv:Val n be) (h:Clo n be out):Jn n be=out:=(DV hv).uniq hv h
theorem Ub {n be} (hv:Val n be) (a b:Nat) (hb:b<n):(nth (Jn n be) b).testBit a=true↔Ch be a b :=
 ⟨(DV hv).snd a b hb,(DV hv).cmp a b⟩
end Go.Proofs.YtjkkdmeebhjaiaaGreatDoor.K
