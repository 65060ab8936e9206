/- Declarations that the closing texts need, part 4: joined by tools/slim.py. -/
import Derived.Test.YtenjikkmmibffaaGreatDoorZ3
set_option linter.unusedVariables false
set_option linter.unusedSimpArgs false
universe u
namespace Go.AM
open Go.RowKit
structure Tk {α:Sort u} (a:α):Type where
def Zu {α:Sort u} (a:α) (_:Tk a):α:=a
@[go_sem] theorem Zeh {α β:Type} {f:α->β} {t x} :Zu f t x=f x:=Zk rfl rfl
@[go_sem ↓] theorem Zei {α β:Type} {f:α->β->Prop} {t x y} :Zu f t x y=f x y:=Zk rfl rfl
@[go_sem ↓] theorem Zej {α β γ:Type} {f:α->β->γ->Prop} {t x y z} :Zu f t x y z=f x y z:=Zk rfl rfl
def Bs (x:Option V) (K:V->Prop):Prop:=match x with | some v=>K v | none=>False
def A5 (x:Option (V×List Obj)) (K:V->List Obj->Prop):Prop:=match x with | some (v,H)=>K v H | none=>False
def bst (x:V) (K:Bool->Prop):Prop:=match x with | .p (.bool b)=>K b | _=>False
def hst (x:Option (List Obj)) (K:List Obj->Prop):Prop:=match x with | some H=>K H | none=>False
@[go_sem ↓, go_sem] theorem Zi7 {v K} :Bs (some v) K=K v:=Zk rfl rfl
@[go_sem ↓, go_sem] theorem ZiO {v H K} :A5 (some (v,H)) K=K v H:=Zk rfl rfl
@[go_sem ↓, go_sem] theorem Zhw {H K} :hst (some H) K=K H:=Zk rfl rfl
@[congr] theorem ZeA {x x' K} (h:x=x'):Bs x K=Bs x' K:=by rw [h]
@[congr] theorem Zet {x x' K} (h:x=x'):A5 x K=A5 x' K:=by rw [h]
@[congr] theorem Zem {x x' K} (h:x=x'):hst x K=hst x' K:=by rw [h]
def I3 (fr:List V):List V:=fr
@[go_sem] theorem Zm0 {fr} :I3 fr=fr:=Zk rfl rfl
section code
variable {cuts : List Nat} {P : Program} {fr : List V} {H : List Obj} {Q : Exit -> List V -> List Obj -> Prop}
@[go_sem ↓] theorem Zd5 : JA cuts P .skip fr H Q=Q .normal fr H:=Zk rfl rfl
@[go_sem ↓] theorem uS {id} {l:List Oper} :JA cuts P (.region id l.toArray false) fr H Q=YJ P (l.map (·.dst)) l (I3 fr) H (Zu (Q .normal) ⟨⟩):=by rfl
@[go_sem ↓] theorem xT {id ops} :JA cuts P (.region id ops true) fr H Q=AWP P (.region id (Zu ops ⟨⟩) true) fr H (Zu Q ⟨⟩):=by rfl
@[go_sem ↓] theorem ZgU {x y} :JA [] P (.seq x y) fr H Q=JA [] P x fr H (QF (fun fr H=>JA [] P y fr H Q) Q):=by
 grind [JA]
def lS (b:Bool) (A B:Prop):Prop:=if b then A else B
def Mv (cuts:List Nat):Option Nat->Bool
 | some i=>cuts.contains i
 | none=>false
@[go_sem ↓] theorem Zd4 {k x y} :JA (k::cuts) P (.seq x y) fr H Q=lS (Mv (k::cuts) (MR x)) (Zu (AWP P (.seq (Zu x ⟨⟩) (Zu y ⟨⟩)) fr H (Zu Q ⟨⟩)) ⟨⟩) (Zu (JA (k::cuts) P x fr H (QF (fun fr H=>JA (k::cuts) P y fr H Q) Q)) ⟨⟩):=by
 rfl
@[go_sem ↓, go_sem] theorem ZeD {A B:Prop} {t} :lS true (Zu A t) B=A:=by rfl
@[go_sem ↓, go_sem] theorem ZcM {A B:Prop} {t} :lS false A (Zu B t)=B:=by rfl
theorem PJ {b b' A B} (h:b=b'):lS b A B=lS b' A B:=by rw [h]
@[go_sem ↓] theorem yX {id ops d} :MR (.region id ops d)=some id:=Zk rfl rfl
@[go_sem ↓] theorem Zlj {x y} :MR (.seq x y)=MR x:=Zk rfl rfl
@[go_sem ↓] theorem Zeg {id c} :MR (.block id c)=MR c:=Zk rfl rfl
@[go_sem ↓] theorem Zhr {c x y} :MR (.cond c x y)=none:=Zk rfl rfl
@[go_sem ↓] theorem Zht {c} :MR (.loop c)=none:=Zk rfl rfl
@[go_sem] theorem yL : Mv cuts none=false:=Zk rfl rfl
@[go_sem] theorem Zea {i} :Mv [] (some i)=false:=Zk rfl rfl
@[go_sem] theorem yK {k i} :Mv (k::cuts) (some i)=(decide (i=k)||Mv cuts (some i)):=by rfl
@[go_sem ↓] theorem Zd0 {c x y} :JA cuts P (.cond c x y) fr H Q=UC (ev fr c) (Zu (JA cuts P x fr H Q) ⟨⟩) (Zu (JA cuts P y fr H Q) ⟨⟩):=Zk rfl rfl
@[go_sem ↓] theorem xS {id c} :JA cuts P (.block id c) fr H Q=JA cuts P c fr H (QO id Q):=Zk rfl rfl
@[go_sem ↓] theorem Zd1 {id} :JA cuts P (.exit id) fr H Q=Q (.exit id) fr H:=Zk rfl rfl
@[go_sem ↓] theorem ZgT : JA cuts P .ret fr H Q=Q .ret fr H:=Zk rfl rfl
@[go_sem ↓] theorem Zd3 {c} :JA cuts P (.loop c) fr H Q=AWP P (.loop (Zu c ⟨⟩)) fr H (Zu Q ⟨⟩):=Zk rfl rfl
@[go_sem ↓] theorem Zd2 {c t} :JA cuts P (Zu c t) fr H Q=JA cuts P c fr H Q:=Zk rfl rfl
theorem S9 {c fr' H'} (h:fr=fr') (h2:H=H'):JA cuts P c fr H Q=JA cuts P c fr' H' Q:=by rw [h,h2]
theorem SK {c fr' H'} (h:fr=fr') (h2:H=H'):AWP P c fr H Q=AWP P c fr' H' Q:=by rw [h,h2]
@[go_sem ↓] theorem tK {A:List V->List Obj->Prop} :QF A Q .normal fr H=A fr H:=Zk rfl rfl
@[go_sem ↓] theorem ZcV {A:List V->List Obj->Prop} {id} :QF A Q (.exit id) fr H=Q (.exit id) fr H:=Zk rfl rfl
@[go_sem ↓] theorem ZfG {A:List V->List Obj->Prop} :QF A Q .ret fr H=Q .ret fr H:=Zk rfl rfl
@[go_sem ↓] theorem nG {id} :QO id Q .normal fr H=Q .normal fr H:=Zk rfl rfl
@[go_sem ↓] theorem xW {id} :QO id Q .ret fr H=Q .ret fr H:=Zk rfl rfl
@[go_sem ↓] theorem uV {id id'} :QO id Q (.exit id') fr H=if id'=id then Q .normal fr H else Q (.exit id') fr H:=Zk rfl rfl
theorem NX {A:List V->List Obj->Prop} {e fr' H'} (h:fr=fr') (h2:H=H'):QF A Q e fr H=QF A Q e fr' H':=by rw [h,h2]
theorem IF {id e fr' H'} (h:fr=fr') (h2:H=H'):QO id Q e fr H=QO id Q e fr' H':=by rw [h,h2]
@[go_sem ↓] theorem vW {rs} {Q:V->List Obj->Prop} :Bu P rs Q .normal fr H=A5 ((Wo P fr H rs).map fun xs=>(Q2 xs,H)) (Zu Q ⟨⟩):=by
 simp only [Bu,Zu];grind [A5]
@[go_sem ↓] theorem Zjd {rs} {Q:V->List Obj->Prop} :Bu P rs Q .ret fr H=A5 ((Wo P fr H rs).map fun xs=>(Q2 xs,H)) (Zu Q ⟨⟩):=by
 simp only [Bu,Zu];grind [A5]
theorem PF {rs e fr' H'} {Q:V->List Obj->Prop} (h:fr=fr') (h2:H=H'):Bu P rs Q e fr H=Bu P rs Q e fr' H':=by rw [h,h2]
@[go_sem] theorem ZcG : Wo P fr H []=some []:=Zk rfl rfl
@[go_sem] theorem ZcH {t l} :Wo P fr H (.tmp t::l)=(Wo P fr H l).map (gt fr t:: ·):=by
 simp only [Wo,aR];cases Wo P fr H l<;>rfl
@[go_sem] theorem vU {a t l} :Wo P fr H (.cell a t::l)=(Ja P H t (gt fr a)).bind fun x=>(Wo P fr H l).map (x:: ·):=by
 simp only [Wo,aR];cases Ja P H t (gt fr a)<;>cases Wo P fr H l<;>rfl
@[go_sem] theorem ZcI {x} :Q2 [x]=x:=Zk rfl rfl
@[go_sem] theorem vV : Q2 []= .tup []:=Zk rfl rfl
@[go_sem] theorem PE {x y l} :Q2 (x::y::l)= .tup (x::y::l):=Zk rfl rfl
end code
attribute [congr] PJ S9 SK NX IF PF
@[go_sem] theorem Zlh {x:V} {l} :gt (x::l) 0=x:=Zk rfl rfl
@[go_sem] theorem Zlg {x:V} {l n} :gt (x::l) (n+1)=gt l n:=Zk rfl rfl
@[go_sem] theorem ZmX {n} :gt [] n= .junk:=Zk rfl rfl
@[go_sem] theorem ZlC {x v:V} {l} :pt (x::l) 0 v=v::l:=Zk rfl rfl
@[go_sem] theorem ZlB {x v:V} {l n} :pt (x::l) (n+1) v=x::pt l n v:=Zk rfl rfl
@[go_sem] theorem Zi9 {fr d v} :Uz fr (some d) v=pt fr d v:=Zk rfl rfl
@[go_sem] theorem Zi8 {fr v} :Uz fr none v=fr:=Zk rfl rfl
@[go_sem] theorem ZiT {x:Obj} {l} :oat (x::l) 0=x:=Zk rfl rfl
@[go_sem] theorem ZiS {x:Obj} {l n} :oat (x::l) (n+1)=oat l n:=Zk rfl rfl
@[go_sem] theorem Zi2 {x v:Obj} {l} :F0 (x::l) 0 v=v::l:=Zk rfl rfl
@[go_sem] theorem Zi1 {x v:Obj} {l n} :F0 (x::l) (n+1) v=x::F0 l n v:=Zk rfl rfl
@[go_sem] theorem Zk5 {fr t} :evx fr (.tmp t)=gt fr t:=Zk rfl rfl
@[go_sem] theorem yR {fr g} :evx fr (.global g)=iI g:=Zk rfl rfl
@[go_sem] theorem ZmM {fr t} :ev fr (.tmp t)=gt fr t:=Zk rfl rfl
@[go_sem] theorem Zk2 {fr f} :ev fr (.func f)= .fn (.func f) [] []:=Zk rfl rfl
@[go_sem] theorem ZmK {fr k n} :ev fr (.const (.int k n))= .p (.int k n):=Zk rfl rfl
@[go_sem] theorem Zk1 {fr b} :ev fr (.const (.bool b))= .p (.bool b):=Zk rfl rfl
@[go_sem] theorem ZmL {fr s} :ev fr (.const (.string s))= .p (.str s.data.toList):=Zk rfl rfl
@[go_sem] theorem Zk4 {fr} :ev fr (.const (.slice none 0 0))= .p (.list true []):=Zk rfl rfl
@[go_sem] theorem Zk3 {fr} :ev fr (.const (.pointer none))= .p .nilp:=Zk rfl rfl
@[go_sem] theorem ZmJ {fr l} :ev fr (.const (.agg (List.toArray l)))=match yM l with | some xs=> .p (.agg xs) | none=> .junk:=Zk rfl rfl
@[go_sem] theorem Zhk {fr d} {l:List (Option Nat)} :FE fr (some d::l) 0=gt fr d:=by simp [FE]
@[go_sem] theorem Zhj {fr o n} {l:List (Option Nat)} :FE fr (o::l) (n+1)=FE fr l n:=by simp [FE]
section ops
variable {P : Program} {fr : List V} {H : List Obj} {ds : List (Option Nat)} {K : List V -> List Obj -> Prop} {r : List Oper} {d : Option Nat} {t : TypeId} {ps : String} {af : Array Edge} {g : Option (Nat × Bool)} {k : V -> List Obj -> Prop}
theorem Ou {l fr' H'} (h:fr=fr') (h2:H=H'):YJ P ds l fr H K=YJ P ds l fr' H' K:=by rw [h,h2]
theorem Mg {o fr' H'} (h:fr=fr') (h2:H=H'):Zw P o fr H k=Zw P o fr' H' k:=by rw [h,h2]
@[go_sem ↓] theorem ZgI : YJ P ds [] fr H K=K fr H:=Zk rfl rfl
@[go_sem] theorem ZdK {op} :YJ P ds (⟨d,op,t,ps,af,none⟩::r) fr H K=Zw P ⟨d,op,t,ps,af,none⟩ fr H (Zu (fun x H'=>YJ P ds r (Uz fr d x) H' K) ⟨⟩):=Zk rfl rfl
@[go_sem] theorem wU {op j b} :YJ P ds (⟨d,op,t,ps,af,some (j,b)⟩::r) fr H K=XO (FE fr ds j) b (Zu (Zw P ⟨d,op,t,ps,af,none⟩ fr H (Zu (fun x H'=>YJ P ds r (Uz fr d x) H' K) ⟨⟩)) ⟨⟩) (Zu (YJ P ds r (Uz fr d (.tup [])) H K) ⟨⟩):=by
 rfl
theorem XP {op:Op} (h:Y2 op=none) (h2:W0 P op fr H=none):Zw P ⟨d,op,t,ps,af,g⟩ fr H k=Bs (Xa P op fr H) fun x=>k x H:=by
 simp only [Zw,h,LW,h2]
 all_goals (cases Xa P op fr H<;>rfl)
theorem S7 {op:Op} (h:Y2 op=none) (h2:Xa P op fr H=none):Zw P ⟨d,op,t,ps,af,g⟩ fr H k=A5 (W0 P op fr H) k:=by
 grind [Zw,LW,A5]
@[go_sem ↓] theorem xN {x} :Zw P ⟨d,.move x,t,ps,af,g⟩ fr H k=k (ev fr x) H:=by rfl
@[go_sem ↓] theorem oT {x} :Zw P ⟨d,.assign x,t,ps,af,g⟩ fr H k=k (ev fr x) H:=by rfl
def vif (b:Bool) (x y:V):V:=if b then x else y
@[go_sem] theorem Zke {x y} :vif true x y=x:=Zk rfl rfl
@[go_sem] theorem ZfH {x y} :vif false x y=y:=Zk rfl rfl
@[go_sem] theorem Zkd {b x y} :vif b (.p (.bool x)) (.p (.bool y))= .p (.bool (if b then x else y)):=by cases b<;>rfl
@[go_sem] theorem ZgN {b} :xD (.p (.bool b))=some b:=Zk rfl rfl
@[go_sem ↓] theorem xP {c x y} :Zw P ⟨d,.pick c x y,t,ps,af,g⟩ fr H k=Bs ((xD (ev fr c)).map fun b=>vif b (ev fr x) (ev fr y)) (Zu (fun v=>k v H) ⟨⟩):=by
 rw [XP rfl rfl];simp only [Xa,X8]
 cases xD (ev fr c)<;>rfl
@[go_sem ↓] theorem xM {u x} :Zw P ⟨d,.load u x,t,ps,af,g⟩ fr H k=Bs (Ja P H u (ev fr x)) (Zu (fun v=>k v H) ⟨⟩):=by rw [XP rfl rfl];rfl
@[go_sem ↓] theorem dS {x} :Zw P ⟨d,.nilCheck x,t,ps,af,g⟩ fr H k=Bs (if Wp H (ev fr x)||iT (ev fr x) then some (ev fr x) else none) (Zu (fun v=>k v H) ⟨⟩):=by rw [XP rfl rfl];rfl
@[go_sem ↓] theorem ZdT {op u x y u2} :Zw P ⟨d,.binOp op u x y u2,t,ps,af,g⟩ fr H k=Bs ((Yi P op u (ev fr x) (ev fr y)).map .p) (Zu (fun v=>k v H) ⟨⟩):=by rw [XP rfl rfl];rfl
@[go_sem ↓] theorem ZgR {op u x} :Zw P ⟨d,.unOp op u x,t,ps,af,g⟩ fr H k=Bs ((aun op (ev fr x)).map .p) (Zu (fun v=>k v H) ⟨⟩):=by rw [XP rfl rfl];rfl
def jU (x y:Option PV):Option PV:=match x with | some z=>some z | none=>y
@[go_sem] theorem Zco {z y} :jU (some z) y=some z:=Zk rfl rfl
@[go_sem] theorem Zcn {y} :jU none y=y:=Zk rfl rfl
@[go_sem ↓] theorem xL {s u x} :Zw P ⟨d,.convert s u x,t,ps,af,g⟩ fr H k=Bs ((jU (C4 P H s u (ev fr x)) (L5 P s u (ev fr x))).map .p) (Zu (fun v=>k v H) ⟨⟩):=by
 rw [XP rfl rfl];simp only [Xa,X8]
 cases C4 P H s u (ev fr x)<;>rfl
@[go_sem ↓] theorem dR {f cs es} :Zw P ⟨d,.makeFunc f (List.toArray cs) (List.toArray es),t,ps,af,g⟩ fr H k=k (.fn f (cs.map (ev fr)) (es.map (ev fr))) H:=by rfl
@[go_sem ↓] theorem uQ {u x lo hi mx} :Zw P ⟨d,.slice u x lo hi mx,t,ps,af,g⟩ fr H k=Bs (W7 P H u fr (ev fr x) lo hi mx) (Zu (fun v=>k v H) ⟨⟩):=by rw [XP rfl rfl];rfl
@[go_sem ↓] theorem bX {s x f} :Zw P ⟨d,.fieldAddr s x f,t,ps,af,g⟩ fr H k=Bs (Jw P H s f (ev fr x)) (Zu (fun v=>k v H) ⟨⟩):=by rw [XP rfl rfl];rfl
@[go_sem ↓] theorem bY {u x i} :Zw P ⟨d,.indexAddr u x i,t,ps,af,g⟩ fr H k=Bs (QJ P H u (evx fr x) (ev fr i)) (Zu (fun v=>k v H) ⟨⟩):=by rw [XP rfl rfl];rfl
@[go_sem ↓] theorem uP {u x i} :Zw P ⟨d,.index u x i,t,ps,af,g⟩ fr H k=Bs (L7 P u (ev fr x) (ev fr i)) (Zu (fun v=>k v H) ⟨⟩):=by rw [XP rfl rfl];rfl
def axt (x:V) (i:Nat):Option V:=match x with | .tup vs=>vs[i]? | _=>none
@[go_sem] theorem ZkJ {vs i} :axt (.tup vs) i=vs[i]? :=Zk rfl rfl
@[go_sem ↓] theorem nE {x i} :Zw P ⟨d,.extract x i,t,ps,af,g⟩ fr H k=Bs (axt (ev fr x) i) (Zu (fun v=>k v H) ⟨⟩):=by
 rw [XP rfl rfl]
 rfl
@[go_sem ↓] theorem uO {u l} :Zw P ⟨d,.build u (List.toArray l),t,ps,af,g⟩ fr H k=Bs (EZ P H u (l.map fun x=>(x.1,ev fr x.2))) (Zu (fun v=>k v H) ⟨⟩):=by rw [XP rfl rfl];rfl
@[go_sem ↓] theorem ZdV {x u} :Zw P ⟨d,.call ⟨.builtin .len,#[x],#[u]⟩,t,ps,af,g⟩ fr H k=Bs ((dF P H u (ev fr x)).map .p) (Zu (fun v=>k v H) ⟨⟩):=by rw [XP rfl rfl];rfl
@[go_sem ↓] theorem ZdW {x y us} :Zw P ⟨d,.call ⟨.builtin .max,#[x,y],us⟩,t,ps,af,g⟩ fr H k=Bs ((Ir false [ev fr x,ev fr y]).map .p) (Zu (fun v=>k v H) ⟨⟩):=by
 rw [XP rfl rfl];rfl
@[go_sem ↓] theorem uN {u} :Zw P ⟨d,.alloc u,t,ps,af,g⟩ fr H k=A5 ((Xe P u).map fun zs=>(.ptr H.length 0,H++ [.cells (zs.map .p)])) (Zu k ⟨⟩):=by rfl
@[go_sem ↓] theorem ZdU {u x} :Zw P ⟨d,.box u x,t,ps,af,g⟩ fr H k=A5 ((vc H (ev fr x)).map fun cs=>(.ptr H.length 0,H++ [.cells cs])) (Zu k ⟨⟩):=by rfl
def xR (H:List Obj) (n:Option Nat) (a:V) (cs:Option (List V)):Option (List Obj):=n.bind fun n=>cs.bind fun cs=>Bd H n a cs
@[go_sem] theorem ZdY {n a cs} :xR H (some n) a (some cs)=Bd H n a cs:=Zk rfl rfl
@[go_sem ↓] theorem uR {u x y} :Zw P ⟨d,.store u x y,t,ps,af,g⟩ fr H k=hst (xR H (YZ P u) (ev fr x) (vc H (ev fr y))) (Zu (k .junk) ⟨⟩):=by
 rw [S7 rfl rfl];simp only [W0,xR]
 cases YZ P u<;>cases vc H (ev fr y)<;>simp [hst,A5,Zu]
 grind
@[go_sem ↓] theorem S6 {u n l} :Zw P ⟨d,.buildSlice u n (List.toArray l),t,ps,af,g⟩ fr H k=A5 (W0 P (.buildSlice u n (List.toArray l)) fr H) (Zu k ⟨⟩):=by rfl
@[go_sem ↓] theorem nF {u} :Zw P ⟨d,.makeMap u none,t,ps,af,g⟩ fr H k=k (.mp H.length) (H++ [.map []]):=by rfl
@[go_sem ↓] theorem oU {u x y ok} :Zw P ⟨d,.lookup u x y ok,t,ps,af,g⟩ fr H k=A5 (BO P H u (ev fr x) (ev fr y) ok) (Zu k ⟨⟩):=by rfl
@[go_sem ↓] theorem xO {u x y z} :Zw P ⟨d,.mapUpdate u x y z,t,ps,af,g⟩ fr H k=A5 (DP P H u (ev fr x) (ev fr y) (ev fr z)) (Zu k ⟨⟩):=by rfl
@[go_sem ↓] theorem bZ {u x y} :Zw P ⟨d,.makeSlice u x y,t,ps,af,g⟩ fr H k=A5 (W0 P (.makeSlice u x y) fr H) (Zu k ⟨⟩):=by rfl
@[go_sem ↓] theorem oS {x y u u2} :Zw P ⟨d,.call ⟨.builtin .append,#[x,y],#[u,u2]⟩,t,ps,af,g⟩ fr H k=A5 (WZ P H u u2 (ev fr x) (ev fr y)) (Zu k ⟨⟩):=by rfl
@[go_sem ↓] theorem xK {f azs ts} :Zw P ⟨d,.call ⟨.value f,List.toArray azs,ts⟩,t,ps,af,g⟩ fr H k=DO P (ev fr f) (azs.map (ev fr)) H (Zu k ⟨⟩):=Zk rfl rfl
@[go_sem ↓] theorem Zgx {f fs cs azs} :DO P (.fn (.func f) fs cs) azs H k=ACalls P f (fs++azs++cs) H k:=Zk rfl rfl
@[go_sem ↓] theorem Zdm {f azs} :DO P (.p (.fn f)) azs H k=ACalls P f azs H k:=Zk rfl rfl
theorem L3 {f f' azs as'} (h:f=f') (h2:azs=as'):DO P f azs H k=DO P f' as' H k:=by rw [h,h2]
theorem Ih {f azs as' H'} (h2:azs=as') (h3:H=H'):ACalls P f azs H k=ACalls P f as' H' k:=by rw [h2,h3]
theorem L4 {x x' A B} (h:x=x'):UC x A B=UC x' A B:=by rw [h]
theorem Io {x x' b A B} (h:x=x'):XO x b A B=XO x' b A B:=by rw [h]
@[go_sem ↓, go_sem] theorem wJ {A:Prop} {t B'} :UC (.p (.bool true)) (Zu A t) B'=A:=by simp [UC,Zu]
@[go_sem ↓, go_sem] theorem uB {B:Prop} {t B'} :UC (.p (.bool false)) B' (Zu B t)=B:=by simp [UC,Zu]
@[go_sem ↓, go_sem] theorem Zdw {A:Prop} {t B} :XO (.p (.bool true)) true (Zu A t) B=A:=by simp [XO,Zu]
@[go_sem ↓, go_sem] theorem Zdv {B:Prop} {t A} :XO (.p (.bool true)) false A (Zu B t)=B:=by simp [XO,Zu]
@[go_sem ↓, go_sem] theorem Zdu {B:Prop} {t A} :XO (.p (.bool false)) true A (Zu B t)=B:=by simp [XO,Zu]
@[go_sem ↓, go_sem] theorem Zdt {A:Prop} {t B} :XO (.p (.bool false)) false (Zu A t) B=A:=by simp [XO,Zu]
@[go_sem ↓, go_sem] theorem uD {b} {B:Prop} {t A} :XO (.tup []) b A (Zu B t)=B:=by rfl
theorem UK {c:Bool} {A B:Prop} {t t'} (h1:c=true->A) (h2:c=false->B):UC (.p (.bool c)) (Zu A t) (Zu B t'):=⟨h1,h2⟩
theorem Vq {c:Bool} {A B:Prop} {t t'} (h1:c=true->A) (h2:c=false->B):XO (.p (.bool c)) true (Zu A t) (Zu B t'):=⟨h1,fun h=>h2 (by simpa using h)⟩
theorem V8 {c:Bool} {A B:Prop} {t t'} (h1:c=true->B) (h2:c=false->A):XO (.p (.bool c)) false (Zu A t) (Zu B t'):=⟨h2,fun h=>h1 (by simpa using h)⟩
theorem Zc {P Q:Prop} (h:Q) (e:Q->P:=by intro h;simp (disch:=omega) only [go_sem,seval];exact h):P:=e h
class Dc (c:Bool) (p q:outParam Prop):Prop where
 t:c=true->p
 f:c=false->q
instance dcD {p : Prop} [Decidable p] : Dc (decide p) p (¬p) := ⟨Ao, of_decide_eq_false⟩
instance (priority := low) dcB {c : Bool} : Dc c (c = true) (c = false) := ⟨id, id⟩
theorem cD {c:Bool} {A B p q:Prop} {t t'} [d:Dc c p q] (h1:p->A) (h2:q->B):UC (.p (.bool c)) (Zu A t) (Zu B t'):=UK (fun h=>h1 (d.t h)) (fun h=>h2 (d.f h))
theorem gT {c:Bool} {A B p q:Prop} {t t'} [d:Dc c p q] (h1:p->A) (h2:q->B):XO (.p (.bool c)) true (Zu A t) (Zu B t'):=Vq (fun h=>h1 (d.t h)) (fun h=>h2 (d.f h))
theorem gF {c:Bool} {A B p q:Prop} {t t'} [d:Dc c p q] (h1:p->B) (h2:q->A):XO (.p (.bool c)) false (Zu A t) (Zu B t'):=V8 (fun h=>h1 (d.t h)) (fun h=>h2 (d.f h))
@[go_sem] theorem Zlx {p:Prop} [Decidable p]:(!decide p)=decide (¬p):=Zb
end ops
attribute [congr] Ou Mg L3 Ih L4 Io
section vals
variable {P : Program} {H : List Obj} {k : IntKind} {t u : TypeId}
@[go_sem] theorem Zgm {a b} :Yi P .add t (.p (.int k a)) (.p (.int k b))=some (.int k (k.wrap (a+b))):=by simp [Yi,QU]
@[go_sem] theorem Zgw {a b} :Yi P .sub t (.p (.int k a)) (.p (.int k b))=some (.int k (k.wrap (a-b))):=by simp [Yi,QU]
@[go_sem] theorem cS {a b} :Yi P .mul t (.p (.int k a)) (.p (.int k b))=some (.int k (k.wrap (a*b))):=by simp [Yi,QU]
@[go_sem] theorem cV {a b} (h:b≠0):Yi P .quo t (.p (.int k a)) (.p (.int k b))=some (.int k (k.wrap (a.tdiv b))):=by simp [Yi,QU,h]
@[go_sem] theorem Zgu {a b} (h:b≠0):Yi P .rem t (.p (.int k a)) (.p (.int k b))=some (.int k (a.tmod b)):=by simp [Yi,QU,h]
@[go_sem] theorem cR {a b} :Yi P .and t (.p (.int k a)) (.p (.int k b))=some (.int k (k.wrap ((BitVec.ofInt k.bits a&&&BitVec.ofInt k.bits b).toNat:Int))):=by simp [Yi,QU]
@[go_sem] theorem P3 {a b} :Yi P .or t (.p (.int k a)) (.p (.int k b))=some (.int k (k.wrap ((BitVec.ofInt k.bits a|||BitVec.ofInt k.bits b).toNat:Int))):=by simp [Yi,QU]
@[go_sem] theorem tZ {a b} :Yi P .andNot t (.p (.int k a)) (.p (.int k b))=some (.int k (k.wrap ((BitVec.ofInt k.bits a&&& ~~~(BitVec.ofInt k.bits b)).toNat:Int))):=by simp [Yi,QU]
@[go_sem] theorem Zgo {a b} :Yi P .eql t (.p (.int k a)) (.p (.int k b))=some (.bool (decide (a=b))):=by simp [Yi,QU]
@[go_sem] theorem Zgt {a b} :Yi P .neq t (.p (.int k a)) (.p (.int k b))=some (.bool (decide (¬a=b))):=by simp [Yi,QU]
@[go_sem] theorem Zgs {a b} :Yi P .lss t (.p (.int k a)) (.p (.int k b))=some (.bool (decide (a<b))):=by simp [Yi,QU]
@[go_sem] theorem Zgr {a b} :Yi P .leq t (.p (.int k a)) (.p (.int k b))=some (.bool (decide (a<=b))):=by simp [Yi,QU]
@[go_sem] theorem Zgq {a b} :Yi P .gtr t (.p (.int k a)) (.p (.int k b))=some (.bool (decide (b<a))):=by simp [Yi,QU]
@[go_sem] theorem Zgp {a b} :Yi P .geq t (.p (.int k a)) (.p (.int k b))=some (.bool (decide (b<=a))):=by simp [Yi,QU]
@[go_sem] theorem cW {a b k'} (h:0<=b):Yi P .shl t (.p (.int k a)) (.p (.int k' b))=some (.int k (k.wrap (a*2^(min b.toNat k.bits)))):=by grind [Yi,QU]
@[go_sem] theorem cX {a b k'} (h:0<=b):Yi P .shr t (.p (.int k a)) (.p (.int k' b))=some (.int k (a.fdiv (2^(min b.toNat k.bits)))):=by grind [Yi,QU]
@[go_sem] theorem Zgv {op a b} :Yi P op t (.p (.str a)) (.p (.str b))=LD op a b:=Zk rfl rfl
@[go_sem] theorem Zjg {a b} :LD .eql a b=some (.bool (decide (a=b))):=Zk rfl rfl
@[go_sem] theorem Zjh {a b} :LD .neq a b=some (.bool (decide (¬a=b))):=by simp [LD]
@[go_sem] theorem lQ {a b} (h:a.length+b.length<=9223372036854775807):LD .add a b=some (.str (a++b)):=by simp [LD,h]
def Zp4 (op:BinOp) (u:Option TypeDesc) (a b:Bool):Option PV:=match op,u with
  | .eql,some .bool=>some (.bool (a==b))
  | .neq,some .bool=>some (.bool (!(a==b)))
  | _,_=>none
end vals
attribute [irreducible] Bs A5 hst bst
end Go.AM
namespace Go.AM
open Go.RowKit
section vals
variable {P : Program} {H : List Obj} {k : IntKind} {t u : TypeId}
def yT (g:Bool) (op:BinOp) (r:Option Bool):Option PV:=if g then none else match op with
 | .eql=>r.map .bool
 | .neq=>r.map fun r=> .bool (!r)
 | _=>none
@[go_sem] theorem Zgn {op a b} :Yi P op t (.p (.agg a)) (.p (.agg b))=yT (P.eqGuardType P.depth t) op (Vp P 9 t (.agg a) (.agg b)):=Zk rfl rfl
@[go_sem] theorem Zhl {b} :yT false .eql (some b)=some (.bool b):=Zk rfl rfl
@[go_sem] theorem Zhm {b} :yT false .neq (some b)=some (.bool (!b)):=Zk rfl rfl
def GI (P:Program) (d:Nat) (t:TypeId) (D:Option TypeDesc) (x y:PV):Option Bool:=match D,x,y with
  | some .bool,.bool a,.bool b=>some (a==b)
  | some (.int _),.int k a,.int k' b=>if k=k' then some (decide (a=b)) else none
  | some .string,.str a,.str b=>some (decide (a=b))
  | some (.struct fs),.agg a,.agg b=>if P.stoodInHeld t then none else BI (Vp P d) P fs.toList a b
  | some (.array n e),.agg a,.agg b=>match YZ P e with | some m=>SP (Vp P d e) P e m n 0 a b | none=>none
  | _,_,_=>none
@[go_sem] theorem Zdq {d x y} :Vp P (d+1) t x y=GI P d t (P.underlying t) x y:=Zk rfl rfl
@[go_sem] theorem Zdp {d a b} :GI P d t (some .bool) (.bool a) (.bool b)=some (a==b):=Zk rfl rfl
@[go_sem] theorem Zgz {d k0 a b} :GI P d t (some (.int k0)) (.int k a) (.int k b)=some (decide (a=b)):=by simp [GI]
theorem Qq {d fs a b} (h:P.stoodInHeld t=false):GI P d t (some (.struct fs)) (.agg a) (.agg b)=BI (Vp P d) P fs.toList a b:=by simp [GI,h]
def Ee (x y:Option Bool):Option Bool:=x.bind fun p=>y.map fun q=>p&&q
@[go_sem] theorem Zex {p q} :Ee (some p) (some q)=some (p&&q):=Zk rfl rfl
def cE (f:PV->PV->Option Bool) (x y:Option PV):Option Bool:=x.bind fun x=>y.bind fun y=>f x y
@[go_sem] theorem Zhb {f x y} :cE f (some x) (some y)=f x y:=Zk rfl rfl
@[go_sem] theorem BJ {f a b} :BI f P [] a b=some true:=Zk rfl rfl
@[go_sem] theorem K5 {f fi r a b} : BI f P (fi :: r) a b = if fi.name = "_" then BI f P r a b else Ee (cE (f fi.type) (apart P fi.type a fi.offset) (apart P fi.type b fi.offset)) (BI f P r a b) := by
 simp only [BI]
 split
 ·rfl
 ·cases apart P fi.type a fi.offset<;>cases apart P fi.type b fi.offset<;>simp [cE,Ee]
  rename_i x y
  cases f fi.type x y<;>cases BI f P r a b<;>rfl
def ZgK (g:Option Bool) (s:Option Nat) (cs:List PV) (off:Nat):Option PV:=match g,s with
 | some true,some n=>if off+n<=cs.length then some (.agg ((cs.drop off).take n)) else none
 | some false,_=>cs[off]?
 | _,_=>none
@[go_sem] theorem ZgJ {cs off} :apart P t cs off=ZgK (XJ P t) (YZ P t) cs off:=Zk rfl rfl
@[go_sem] theorem ZgL {s cs off} :ZgK (some false) s cs off=cs[off]? :=Zk rfl rfl
def Oo (g:Option Bool) (s:Option Nat) (H:List Obj) (x:V):Option V:=match g,s with
 | some true,some n=>(Up H x n).map mkA
 | some false,_=>match Up H x 1 with
  | some (c::_)=>some c
  | _=>none
 | _,_=>none
def hdO (x:Option (List V)):Option V:=match x with | some (c::_)=>some c | _=>none
@[go_sem] theorem Zhq {c l} :hdO (some (c::l))=some c:=Zk rfl rfl
@[go_sem] theorem ZgE {x} :Ja P H t x=Oo (XJ P t) (YZ P t) H x:=Zk rfl rfl
@[go_sem] theorem wT {s x} :Oo (some false) s H x=hdO (Up H x 1):=by rfl
@[go_sem] theorem wS {n x} :Oo (some true) (some n) H x=(Up H x n).map mkA:=Zk rfl rfl
@[go_sem] theorem Zdo {x j n} :Up H (.lp x j) n=if j+n<=x.cells.length then some (((x.cells.drop j).take n).map .p) else none:=Zk rfl rfl
def kO (ob:Obj) (off n:Nat):Option (List V):=match ob with | .cells cs=>if off+n<=cs.length then some ((cs.drop off).take n) else none | _=>none
@[go_sem] theorem wI {o off n} :Up H (.ptr o off) n=kO (oat H o) off n:=Zk rfl rfl
@[go_sem] theorem sB {cs off n} :kO (.cells cs) off n=if off+n<=cs.length then some ((cs.drop off).take n) else none:=Zk rfl rfl
def fS (ob:Obj) (i j tot n:Nat):Option (List V):=match ob with
 | .elems _ xs=>if xs.length=tot/\i<xs.length/\j+n<=(Kv xs i).cells.length then some ((((Kv xs i).cells.drop j).take n).map .p) else none
 | _=>none
@[go_sem] theorem Zdn {o i j tot n} :Up H (.ep o i j tot) n=fS (oat H o) i j tot n:=Zk rfl rfl
@[go_sem] theorem pV {S xs i j tot n} :fS (.elems S xs) i j tot n=if xs.length=tot/\i<xs.length/\j+n<=(Kv xs i).cells.length then some ((((Kv xs i).cells.drop j).take n).map .p) else none:=Zk rfl rfl
@[go_sem] theorem Zd6 {cs} :(PV.agg cs).cells=cs:=Zk rfl rfl
@[go_sem] theorem Zd8 {n} :(PV.int k n).cells= [.int k n]:=Zk rfl rfl
@[go_sem] theorem yB {b} :(PV.bool b).cells= [.bool b]:=Zk rfl rfl
@[go_sem] theorem Zd9 {s} :(PV.str s).cells= [.str s]:=Zk rfl rfl
@[go_sem] theorem yC {c xs} :(PV.list c xs).cells= [.list c xs]:=Zk rfl rfl
@[go_sem] theorem Zlz {n} :(PV.int k n).one=true:=Zk rfl rfl
@[go_sem] theorem ZiZ {b} :(PV.bool b).one=true:=Zk rfl rfl
@[go_sem] theorem ZlA {s} :(PV.str s).one=true:=Zk rfl rfl
@[go_sem] theorem Zi0 {c xs} :(PV.list c xs).one=true:=Zk rfl rfl
@[go_sem] theorem Znh {cs} :mkA cs=match Qn cs with | some ps=> .p (.agg ps) | none=> .agg cs:=Zk rfl rfl
@[go_sem] theorem ZgD : Qn []=some []:=Zk rfl rfl
@[go_sem] theorem ZdC {x r} :Qn (.p x::r)=(Qn r).map (x:: ·):=by rfl
def Ep (n:Option Nat) (a:Bool) (x:V):Option V:=match n with | some n=>if a then some (BP n x) else none | none=>none
@[go_sem] theorem Zdr {s f x} :Jw P H s f x=Ep (ZR P s f) (Wp H x) x:=Zk rfl rfl
@[go_sem] theorem nP {n x} :Ep (some n) true x=some (BP n x):=Zk rfl rfl
@[go_sem] theorem ZgH {n x j} :BP n (.lp x j)= .lp x (j+n):=Zk rfl rfl
@[go_sem] theorem ZdH {n o off} :BP n (.ptr o off)= .ptr o (off+n):=Zk rfl rfl
@[go_sem] theorem ZgG {n o i j tot} :BP n (.ep o i j tot)= .ep o i (j+n) tot:=Zk rfl rfl
def RJ (ob:Obj):Bool:=match ob with | .cells _=>true | _=>false
@[go_sem] theorem nI {cs} :RJ (.cells cs)=true:=Zk rfl rfl
def RK (ob:Obj) (tot:Nat):Bool:=match ob with | .elems _ xs=>decide (xs.length=tot) | _=>false
@[go_sem] theorem nJ {S xs tot} :RK (.elems S xs) tot=decide (xs.length=tot):=Zk rfl rfl
def RN (ob:Obj) (tot:Nat):Bool:=match ob with | .elems _ xs=>decide (xs.length=tot) | .cells _=>true | _=>false
@[go_sem] theorem vJ {S xs tot} :RN (.elems S xs) tot=decide (xs.length=tot):=Zk rfl rfl
@[go_sem] theorem vI {cs tot} :RN (.cells cs) tot=true:=Zk rfl rfl
@[go_sem] theorem ZgC {x j} :Wp H (.lp x j)=true:=Zk rfl rfl
@[go_sem] theorem wQ {o off} :Wp H (.ptr o off)=RJ (oat H o):=Zk rfl rfl
@[go_sem] theorem ZgB {o i j tot} :Wp H (.ep o i j tot)=RK (oat H o) tot:=Zk rfl rfl
def UM (e:Option (Option Nat×Nat)) (H:List Obj) (x i:V):Option V:=match e,i with
 | some (none,S),.p (.int _ n)=>match x with
  | .p (.list _ xs)=>if 0<=n/\n<xs.length then (if (Kv xs n.toNat).cells.length=S then some (.lp (Kv xs n.toNat) 0) else none) else none
  | .sl o off len tot=>match oat H o with
   | .elems S' xs=>if xs.length=tot/\S'=S then (if 0<=n/\n<len then some (.ep o (off+n.toNat) 0 tot) else none) else none
   | .cells _=>if S=1/\off=0/\len=tot/\0<=n/\n<len then some (.ptr o n.toNat) else none
   | _=>none
  | _=>none
 | some (some k,S),.p (.int _ n)=>if 0<=n/\n<k then (if Wp H x then some (BP (n.toNat*S) x) else none) else none
 | _,_=>none
@[go_sem] theorem Zdy {x i} :QJ P H t x i=UM (We P t) H x i:=Zk rfl rfl
theorem Ip {S c xs n} (h0:0<=n) (h1:n<(List.length xs:Int)):UM (some (none,S)) H (.p (.list c xs)) (.p (.int k n))=if (Kv xs n.toNat).cells.length=S then some (.lp (Kv xs n.toNat) 0) else none:=by
 simp_all [UM]
def nth {α:Type} [Inhabited α] (l:List α) (i:Nat):α:=l.getD i default
theorem UO {α:Type} [Inhabited α] {f:α->PV} {l:List α} {i:Nat} (h:i<l.length):Kv (l.map f) i=f (nth l i):=by
 simp [Kv,nth,h]
theorem Zh {α:Type} [Inhabited α] {l:List α} {i:Nat} (h:i<l.length):nth l i=l[i]:=by simp [nth,h]
@[go_sem] theorem uF {α:Type} [Inhabited α] {f:α->PV} {l:List α} {S c n} (h0:0<=n) (h1:n<(l.length:Int)) :
  UM (some (none,S)) H (.p (.list c (l.map f))) (.p (.int k n))=if (f (nth l n.toNat)).cells.length=S then some (.lp (f (nth l n.toNat)) 0) else none:=by
 grind [Ip,UO]
def Gn (ob:Obj) (S o off len tot:Nat) (n:Int):Option V:=match ob with
 | .elems S' xs=>if xs.length=tot/\S'=S then (if 0<=n/\n<len then some (.ep o (off+n.toNat) 0 tot) else none) else none
 | .cells _=>if S=1/\off=0/\len=tot/\0<=n/\n<len then some (.ptr o n.toNat) else none
 | _=>none
@[go_sem] theorem wM {S o off len tot n} :UM (some (none,S)) H (.sl o off len tot) (.p (.int k n))=Gn (oat H o) S o off len tot n:=Zk rfl rfl
@[go_sem] theorem ZeF {S xs o off} {len tot:Nat} {n:Int} (h0:0<=n) (h1:n<(len:Int)) (ht:xs.length=tot):Gn (.elems S xs) S o off len tot n=some (.ep o (off+n.toNat) 0 tot):=by
 grind [Gn]
@[go_sem] theorem sX {cs o} {len:Nat} {n:Int} (h0:0<=n) (h1:n<(len:Int)):Gn (.cells cs) 1 o 0 len len n=some (.ptr o n.toNat):=by
 grind [Gn]
@[go_sem] theorem uE {n} {m S:Nat} {x} (h0:0<=n) (h1:n<(m:Int)):UM (some (some m,S)) H x (.p (.int k n))=Ep (some (n.toNat*S)) (Wp H x) x:=by
 simp_all [UM,Ep]
def P4 (H:List Obj) (D:Option TypeDesc) (x:V):Option PV:=match D,x with
 | some (.slice _),.p (.list _ xs)=>some (.int .i64 xs.length)
 | some (.slice _),.sl o _ len tot=>match oat H o with
  | .elems _ xs=>if xs.length=tot then some (.int .i64 len) else none
  | _=>none
 | some .string,.p (.str s)=>some (.int .i64 s.length)
 | some (.array n _),_=>some (.int .i64 n)
 | _,_=>none
@[go_sem] theorem ZkA {x} :dF P H t x=P4 H (P.underlying t) x:=Zk rfl rfl
@[go_sem] theorem wN {e c xs} :P4 H (some (.slice e)) (.p (.list c xs))=some (.int .i64 (List.length xs)):=Zk rfl rfl
def Zjk (ob:Obj) (len tot:Nat):Option PV:=match ob with | .elems _ xs=>if xs.length=tot then some (.int .i64 len) else none | _=>none
@[go_sem] theorem ZgA {e o off len tot} :P4 H (some (.slice e)) (.sl o off len tot)=Zjk (oat H o) len tot:=Zk rfl rfl
@[go_sem] theorem ZcO {S xs len tot} :Zjk (.elems S xs) len tot=if xs.length=tot then some (.int .i64 len) else none:=Zk rfl rfl
@[go_sem] theorem ZdB {s} :P4 H (some .string) (.p (.str s))=some (.int .i64 (List.length s)):=Zk rfl rfl
@[go_sem] theorem ZkI {b} :aun .not (.p (.bool b))=some (.bool (!b)):=Zk rfl rfl
@[go_sem] theorem ZkH {n} :aun .neg (.p (.int k n))=some (.int k (k.wrap (0-n))):=Zk rfl rfl
def cZ (D E:Option TypeDesc) (x:V):Option PV:=match D,E,x with
 | some _,some (.int k),.p (.int _ n)=>some (.int k (k.wrap n))
 | some (.int _),some .string,.p (.int _ n)=>if 0<=n/\n<128 then some (.str [UInt8.ofNat n.toNat]) else none
 | some .string,some .string,.p (.str b)=>some (.str b)
 | _,_,_=>none
@[go_sem] theorem Zgy {s x} :L5 P s t x=cZ (P.underlying s) (P.underlying t) x:=Zk rfl rfl
@[go_sem] theorem wK {D k' n} :cZ (some D) (some (.int k)) (.p (.int k' n))=some (.int k (k.wrap n)):=by rfl
def Im (E:Option TypeDesc) (H:List Obj) (x:V):Option PV:=match E,x with
  | some (.int .u8),.p (.list _ xs)=>(Y1 xs).map .str
  | some (.int .u8),.sl o off len tot=>match oat H o with
   | .elems _ xs=>if xs.length=tot/\off+len<=tot then (Y1 ((xs.take (off+len)).drop off)).map .str else none
   | _=>none
  | _,_=>none
def Il (P:Program) (H:List Obj) (D E:Option TypeDesc) (x:V):Option PV:=match D,E with
 | some (.slice e),some .string=>Im (P.underlying e) H x
 | _,_=>none
@[go_sem] theorem Zdl {s x} :C4 P H s t x=Il P H (P.underlying s) (P.underlying t) x:=Zk rfl rfl
@[go_sem] theorem uA {E x} :Il P H (some (.int k)) E x=none:=Zk rfl rfl
@[go_sem] theorem nA {e x} :Il P H (some (.slice e)) (some .string) x=Im (P.underlying e) H x:=Zk rfl rfl
def lR (ob:Obj) (off len tot:Nat):Option PV:=match ob with | .elems _ xs=>if xs.length=tot/\off+len<=tot then (Y1 ((xs.take (off+len)).drop off)).map .str else none | _=>none
@[go_sem] theorem wH {o off len tot} :Im (some (.int .u8)) H (.sl o off len tot)=lR (oat H o) off len tot:=Zk rfl rfl
@[go_sem] theorem sS {S xs off len tot} :lR (.elems S xs) off len tot=if xs.length=tot/\off+len<=tot then (Y1 ((xs.take (off+len)).drop off)).map .str else none:=Zk rfl rfl
@[go_sem] theorem uW : Y1 []=some []:=Zk rfl rfl
@[go_sem] theorem pC {n r} :Y1 (.int .u8 n::r)=(Y1 r).map (UInt8.ofNat n.toNat:: ·):=by rfl
@[go_sem] theorem Zl3 {a b:Int} (h:0<=a):a.tdiv b=a / b:=Int.tdiv_eq_ediv_of_nonneg h
@[go_sem] theorem Zmg {a b:Int} (h:0<=a):a.tmod b=a%b:=Int.tmod_eq_emod_of_nonneg h
@[go_sem] theorem ZoN {cs} :vc H (.p (.agg cs))=if cs.all (·.one)=true then some (cs.map .p) else none:=by rfl
@[go_sem] theorem Zmh {cs} :vc H (.agg cs)=if cs.all (V.one H)=true then some cs else none:=by rfl
@[go_sem] theorem ZoO {n} :vc H (.p (.int k n))=some [.p (.int k n)]:=Zk rfl rfl
@[go_sem] theorem Zmi {n} :vc H (.p (.bool n))=some [.p (.bool n)]:=Zk rfl rfl
@[go_sem] theorem ZoP {n} :vc H (.p (.str n))=some [.p (.str n)]:=Zk rfl rfl
@[go_sem] theorem Zmj {c xs} :vc H (.p (.list c xs))=some [.p (.list c xs)]:=Zk rfl rfl
@[go_sem] theorem Zp2 {o off len tot} :vc H (.sl o off len tot)=if RN (oat H o) tot=true then some [.sl o off len tot] else none:=Zk rfl rfl
@[go_sem] theorem ZoQ {x} :V.one H (.p x)=x.one:=Zk rfl rfl
@[go_sem] theorem Zmm {o off len tot} :V.one H (.sl o off len tot)=RN (oat H o) tot:=Zk rfl rfl
@[go_sem] theorem Zml {o} :V.one H (.mp o)=RL (oat H o):=Zk rfl rfl
@[go_sem] theorem Zp1 {o} :vc H (.mp o)=if RL (oat H o)=true then some [.mp o] else none:=Zk rfl rfl
@[go_sem] theorem Zen {es} :RL (.map es)=true:=Zk rfl rfl
@[go_sem] theorem LI {α:Type} {n} {cs:List α} :Q7 ([]:List α) n cs= []:=by rfl
@[go_sem] theorem Zjn {α:Type} {x c:α} {l cs} :Q7 (x::l) 0 (c::cs)=c::Q7 l 0 cs:=by simp [Q7]
@[go_sem] theorem ZeG {α:Type} {x:α} {l} :Q7 (x::l) 0 []=x::l:=by simp [Q7]
@[go_sem] theorem Zjm {α:Type} {x:α} {l cs n} :Q7 (x::l) (n+1) cs=x::Q7 l n cs:=by simp [Q7]
def kX (H:List Obj) (o:Nat) (ob:Obj) (off n:Nat) (cs:List V):Option (List Obj):=match ob with
 | .cells old=>if off+n<=old.length then some (F0 H o (.cells (Q7 old off cs))) else none
 | _=>none
@[go_sem] theorem xQ {n o off cs} :Bd H n (.ptr o off) cs=if cs.length=n then kX H o (oat H o) off n cs else none:=Zk rfl rfl
@[go_sem] theorem sF {o old off n cs} :kX H o (.cells old) off n cs=if off+n<=old.length then some (F0 H o (.cells (Q7 old off cs))) else none:=Zk rfl rfl
def OU (H:List Obj) (o:Nat) (ob:Obj) (i j tot n:Nat) (ps:Option (List PV)):Option (List Obj):=match ob,ps with
 | .elems S xs,some ps=>if xs.length=tot/\i<xs.length/\j+n<=(Kv xs i).cells.length/\ps.all (·.one)=true/\(Kv xs i).cells.all (·.one)=true then
   some (F0 H o (.elems S (xs.set i (jG (Kv xs i) (Q7 (Kv xs i).cells j ps))))) else none
 | _,_=>none
@[go_sem] theorem ZdX {n o i j tot cs} :Bd H n (.ep o i j tot) cs=if cs.length=n then OU H o (oat H o) i j tot n (Qn cs) else none:=Zk rfl rfl
@[go_sem] theorem yQ {α:Type} [Inhabited α] {f:α->PV} {l:List α} {o S i j tot n ps} (ht:l.length=tot) (hi:i<l.length):OU H o (.elems S (l.map f)) i j tot n (some ps) =
  if j+n<=(f (nth l i)).cells.length/\ps.all (·.one)=true/\(f (nth l i)).cells.all (·.one)=true then
   some (F0 H o (.elems S ((l.map f).set i (jG (f (nth l i)) (Q7 (f (nth l i)).cells j ps))))) else none:=by
 simp_all [OU,UO]
@[go_sem] theorem Zlv {a cs} :jG (.agg a) cs= .agg cs:=Zk rfl rfl
@[go_sem] theorem Zlw {n c l} :jG (.int k n) (c::l)=c:=Zk rfl rfl
@[go_sem] theorem ZiN {n c l} :jG (.bool n) (c::l)=c:=Zk rfl rfl
@[go_sem] theorem Zdk {l} :EZ P H t l=match Xe P t,BG P t with
 | some zs,some pl=>(Ko H pl (zs.map .p) l).map mkA
 | _,_=>none:=Zk rfl rfl
@[go_sem] theorem Zds {pl cs} :Ko H pl cs []=some cs:=by simp [Ko]
def dB (H:List Obj) (pl:Nat->Option (Nat×Nat)) (cs:List V) (r:List (Nat×V)) (q:Option (Nat×Nat)) (vs:Option (List V)):Option (List V):=match q,vs with
 | some (off,sz),some vs=>if vs.length=sz/\off+sz<=cs.length then Ko H pl (Q7 cs off vs) r else none
 | _,_=>none
@[go_sem] theorem wL {pl cs i v r} :Ko H pl cs ((i,v)::r)=dB H pl cs r (pl i) (vc H v):=Zk rfl rfl
@[go_sem] theorem uC {pl cs off sz vs r} :dB H pl cs r (some (off,sz)) (some vs)=if vs.length=sz/\off+sz<=cs.length then Ko H pl (Q7 cs off vs) r else none:=Zk rfl rfl
@[go_sem] theorem Znn {l i} :BF l i=l[i]? :=Zk rfl rfl
@[go_sem] theorem Znm {n i} :plA n i=some (i*n,n):=Zk rfl rfl
end vals
end Go.AM
namespace Go.AM
open Go.RowKit
section
variable {P : Program} {H : List Obj} {k : IntKind} {t u : TypeId} {fr : List V}
def dG (S:Option Nat) (H:List Obj) (n:Nat) (l:List (Nat×V)):Option (V×List Obj):=match S with
 | some S=>if n=l.length/\n*S<=16777216/\0<S then (Ji H S 0 l).map fun xs=>(.sl H.length 0 n n,H++ [.elems S xs]) else none
 | none=>none
@[go_sem] theorem ZgF {n l} :W0 P (.buildSlice t n (List.toArray l)) fr H=dG (UR P t) H n (l.map fun x=>(x.1,ev fr x.2)):=by
 grind [W0,UR,dG,On]
@[go_sem] theorem wO {S n l} :dG (some S) H n l=if n=l.length/\n*S<=16777216/\0<S then (Ji H S 0 l).map fun xs=>(.sl H.length 0 n n,H++ [.elems S xs]) else none:=Zk rfl rfl
@[go_sem] theorem ZiJ {S n} :Ji H S n []=some []:=by simp [Ji]
@[go_sem] theorem Zes {S n i x r} :Ji H S n ((i,.p x)::r)=if i=n then if x.cells.length=S/\x.cells.all (·.one)=true then (Ji H S (n+1) r).map (x:: ·) else none else none:=by rfl
@[go_sem] theorem Zlm {S n i f r} :Ji H S n ((i,.fn (.func f) [] [])::r)=if i=n then if 1=S then (Ji H S (n+1) r).map (.fn f:: ·) else none else none:=by simp [Ji,pvo,PV.cells,PV.one]
def QM (P:Program) (t:TypeId):Option (Nat×Nat):=match P.underlying t with
 | some (.slice e)=>match YZ P e,zval P e,(P.info? e).map (·.bytes) with
  | some S,some z,some by'=>if 0<S/\z.cells.length=S/\z.cells.all (·.one)=true/\by'≠0 then some (S,by') else none
  | _,_,_=>none
 | _=>none
theorem E9 {S by'} (h:QM P t=some (S,by')): ∃e z,P.underlying t=some (.slice e)/\YZ P e=some S/\zval P e=some z/\(P.info? e).map (·.bytes)=some by'/\0<S/\z.cells.length=S/\z.cells.all (·.one)=true/\by'≠0:=by
 unfold QM at h
 grind
def YI (D:Option TypeDesc) (H:List Obj) (y:V):Option (List PV):=match D,y with
 | some (.slice _),.p (.list _ ys)=>some ys
 | some (.slice _),.sl o off len tot=>match oat H o with
  | .elems _ xs=>if xs.length=tot/\off+len<=tot then some ((xs.take (off+len)).drop off) else none
  | _=>none
 | some .string,.p (.str s)=>some (s.map fun b=> .int .u8 b.toNat)
 | _,_=>none
def mE (ob:Obj) (off len tot:Nat):Option (List PV):=match ob with | .elems _ xs=>if xs.length=tot/\off+len<=tot then some ((xs.take (off+len)).drop off) else none | _=>none
@[go_sem] theorem xE {e c ys} :YI (some (.slice e)) H (.p (.list c ys))=some ys:=Zk rfl rfl
@[go_sem] theorem ZgQ {e o off len tot} :YI (some (.slice e)) H (.sl o off len tot)=mE (oat H o) off len tot:=Zk rfl rfl
theorem NS {S xs n} (h:List.length xs=n):mE (.elems S xs) 0 n n=some xs:=by grind [mE]
def Ma (H:List Obj) (F:Option (Nat×Nat)) (ys:Option (List PV)):Option (V×List Obj):=match F,ys with
 | some (S,by'),some ys=>if AD S ys=true/\ys.length*by'<=140737488355328/\ys.length<=140737488355328 then some (.sl H.length 0 ys.length ys.length,H++ [.elems S ys]) else none
 | _,_=>none
def Uq (H:List Obj) (F:Option (Nat×Nat)) (ob:Obj) (o n:Nat) (ys:Option (List PV)):Option (V×List Obj):=match F,ob,ys with
 | some (S,by'),.elems S' xs,some ys=>if S'=S/\xs.length=n/\AD S ys=true/\(n+ys.length)*by'<=140737488355328/\n+ys.length<=140737488355328 then
   some (.sl o 0 (n+ys.length) (n+ys.length),F0 H o (.elems S (xs++ys))) else none
 | _,_,_=>none
theorem Ij {z x y ys e S by'} (h1:P.underlying t=some (.slice e)) (h2:YZ P e=some S) (h3:zval P e=some z) (h4:(P.info? e).map (·.bytes)=some by') (h5:GJ P H u y=some ys) (h6:0<S/\z.cells.length=S/\z.cells.all (·.one)=true/\by'≠0) :
  WZ P H t u x y=if AD S ys=true then (match x with
    | .p (.list cl xs)=>if cl=true/\AD S xs=true/\(xs= []\/0<ys.length)/\(xs.length+ys.length)*by'<=140737488355328/\xs.length+ys.length<=140737488355328 then
      some (.sl H.length 0 (xs.length+ys.length) (xs.length+ys.length),H++ [.elems S (xs++ys)]) else none
    | .sl o off len tot=>match oat H o with
     | .elems S' xs=>if S'=S/\off=0/\len=tot/\xs.length=tot/\(tot+ys.length)*by'<=140737488355328/\tot+ys.length<=140737488355328 then
       some (.sl o 0 (tot+ys.length) (tot+ys.length),F0 H o (.elems S (xs++ys))) else none
     | _=>none
    | _=>none) else none:=by
 simp only [WZ,h1,h2,h3,h4,h5]
 grind
theorem BH {y F} (hF:QM P t=some F):WZ P H t u (.p (.list true [])) y=Ma H (some F) (YI (P.underlying u) H y):=by
 obtain ⟨S,by'⟩:=F;obtain ⟨e,z,h1,h2,h3,h4,h6⟩:=E9 hF;have e1:YI (P.underlying u) H y=GJ P H u y:=Zk rfl rfl;rw [e1]
 cases h5:GJ P H u y with
 | none=>grind [WZ,Ma]
 | some ys =>
  grind [Ij,Ma,AD]
theorem Yk {y F o n} (hF:QM P t=some F):WZ P H t u (.sl o 0 n n) y=Uq H (some F) (oat H o) o n (YI (P.underlying u) H y):=by
 obtain ⟨S,by'⟩:=F;obtain ⟨e,z,h1,h2,h3,h4,h6⟩:=E9 hF;have e1:YI (P.underlying u) H y=GJ P H u y:=Zk rfl rfl;rw [e1]
 cases h5:GJ P H u y with
 | none =>
  grind [WZ,Uq]
 | some ys =>
  rw [Ij h1 h2 h3 h4 h5 h6];simp only [Uq]
  grind
@[go_sem] theorem ZdM {S b ys} :Ma H (some (S,b)) (some ys)=if AD S ys=true/\ys.length*b<=140737488355328/\ys.length<=140737488355328 then some (.sl H.length 0 ys.length ys.length,H++ [.elems S ys]) else none:=Zk rfl rfl
theorem G7 {S b xs ys o n} (hn:xs.length=n) (hb:(n+ys.length)*b<=140737488355328) (hb2:n+ys.length<=140737488355328):Uq H (some (S,b)) (.elems S xs) o n (some ys)=if AD S ys=true then some (.sl o 0 (n+ys.length) (n+ys.length),F0 H o (.elems S (xs++ys))) else none:=by
 simp_all [Uq]
@[go_sem] theorem Zjp {α:Type} {S} {f:α->PV} {l:List α} :mE (.elems S (l.map f)) 0 l.length l.length=some (l.map f):=NS Zb
@[go_sem] theorem Zjq {S x} :mE (.elems S [x]) 0 1 1=some [x]:=NS Zb
@[go_sem] theorem ZdO {α:Type} {S b o x} {f:α->PV} {l:List α} (hb:(l.length+1)*b<=140737488355328) (hb2:l.length+1<=140737488355328):Uq H (some (S,b)) (.elems S (l.map f)) o l.length (some [x])=if AD S [x]=true then some (.sl o 0 (l.length+1) (l.length+1),F0 H o (.elems S (l.map f++ [x]))) else none :=
 G7 Zb Za Za
@[go_sem] theorem ZdP {α β:Type} {S b o} {f:α->PV} {g:β->PV} {l:List α} {m:List β} (hb:(l.length+m.length)*b<=140737488355328) (hb2:l.length+m.length<=140737488355328):Uq H (some (S,b)) (.elems S (l.map f)) o l.length (some (m.map g))=if AD S (m.map g)=true then some (.sl o 0 (l.length+m.length) (l.length+m.length),F0 H o (.elems S (l.map f++m.map g))) else none:=by
 grind [G7]
@[go_sem] theorem Zly {S} :AD S []=true:=Zk rfl rfl
@[go_sem] theorem ZiU {S x l} :AD S (x::l)=((x.cells.length==S)&&x.cells.all (·.one)&&AD S l):=by rfl
theorem J2 {α:Type} {S} {f:α->PV} {l:List α} (h: ∀x,Zcp S (f x)=true):AD S (l.map f)=true:=by grind [AD]
def RX (P:Program) (t:TypeId):Option (Nat×Nat×PV):=match P.underlying t with
  | some (.slice e)=>match YZ P e,zval P e,(P.info? e).map (·.bytes) with
   | some S,some z,some by'=>if z.cells.all (·.one)=true/\z.cells.length=S/\0<S then some (S,by',z) else none
   | _,_,_=>none
  | _=>none
end
def WB : Nat->List Nat->List V->List V
 | _,_,[]=> []
 | i,[],_::l=> .junk::WB (i+1) [] l
 | i,k::ks,x::l=>if i=k then x::WB (i+1) ks l else .junk::WB (i+1) (k::ks) l
def Kn : List (Nat×V)->List V->List V
 | [],fr=>fr
 | (i,v)::r,fr=>Kn r (pt fr i v)
@[go_sem] theorem Zeo {i ks} :WB i ks []= []:=by rfl
@[go_sem] theorem Zcg {i x l} :WB i [] (x::l)= .junk::WB (i+1) [] l:=by simp [WB]
@[go_sem] theorem Zcf {i k ks x l} :WB i (k::ks) (x::l)=if i=k then x::WB (i+1) ks l else .junk::WB (i+1) (k::ks) l:=by simp [WB]
@[go_sem] theorem Zo1 : ((0:Nat):Int)=0:=Zk rfl rfl
@[go_sem] theorem Zo2 {n:Nat} :((n+1:Nat):Int)=(n:Int)+1:=Zk rfl rfl
@[go_sem] theorem ZnV {n:Nat} :((n:Int)).toNat=n:=Zk rfl rfl
@[go_sem] theorem Zji {fr} :Kn [] fr=fr:=by simp [Kn]
@[go_sem] theorem ZeE {i v r fr} :Kn ((i,v)::r) fr=Kn r (pt fr i v):=by simp [Kn]
@[go_sem] theorem ZkF {p q:Prop} [Decidable p] [Decidable q]:(decide p&&decide q)=decide (p/\q):=Zb
@[go_sem] theorem Zct {p q:Prop} [Decidable p] [Decidable q]:(decide p||decide q)=decide (p\/q):=Zb
theorem Zl {P c fr H Q} {I:Type} (ks:List Nat) (sets:I->List (Nat×V)) (hs:I->List Obj) (R:I->Prop) (μ:I->Nat) (i0:I) (hR:R i0) (h0:Weak H.length fr H (Kn (sets i0) (WB 0 ks fr)) (hs i0))
  (round: ∀i,R i->JA [] P c (Kn (sets i) (WB 0 ks fr)) (hs i) (QF (fun fr' H'=> ∃i',R i'/\μ i'<μ i/\Weak H.length fr' H' (Kn (sets i') (WB 0 ks fr)) (hs i')) Q)):AWP P (.loop c) fr H Q :=
 Mh R (fun i=>Kn (sets i) (WB 0 ks fr)) hs μ i0 hR h0 fun i hi=>Zg [] _ _ _ _ (round i hi)
theorem Z2 {P c fr H Q} (cuts:List Nat) {I:Type} (ks:List Nat) (sets:I->List (Nat×V)) (hs:I->List Obj) (R:I->Prop) (μ:I->Nat) (i0:I) (hR:R i0) (h0:Weak H.length fr H (Kn (sets i0) (WB 0 ks fr)) (hs i0))
  (round: ∀i,R i->JA cuts P c (Kn (sets i) (WB 0 ks fr)) (hs i) (QF (fun fr' H'=> ∃i',R i'/\μ i'<μ i/\Weak H.length fr' H' (Kn (sets i') (WB 0 ks fr)) (hs i')) Q)):AWP P (.loop c) fr H Q :=
 Mh R (fun i=>Kn (sets i) (WB 0 ks fr)) hs μ i0 hR h0 fun i hi=>Zg cuts _ _ _ _ (round i hi)
theorem ZI {P x y fr H Q} {I:Type} (ks:List Nat) (sets:I->List (Nat×V)) (hs:I->List Obj) (R:I->Prop)
  (h:JA [] P x fr H (QF (fun fr' H'=> ∃i,R i/\Weak H.length fr' H' (Kn (sets i) (WB 0 ks fr)) (hs i)) Q)) (k: ∀i,R i->AWP P y (Kn (sets i) (WB 0 ks fr)) (hs i) Q):AWP P (.seq x y) fr H Q :=
 fun F ι a w hr hf=>by
 refine wp_seq (wp_mono (Zg [] _ _ _ _ h F ι a w hr hf) ?_);rintro e a' w' ⟨fr',H',ι',q,g,f⟩
 cases e with
 | normal =>
  obtain ⟨i,hi,hw⟩:=q;obtain ⟨ι2,r2,f2,g2⟩:=hw F ι' a' w' g.rel f;refine wp_mono (k i hi F ι2 a' w' r2 f2) ?_;rintro e2 a2 w2 ⟨fr2,H2,ι3,q2,g3,f3⟩;exact ⟨fr2,H2,ι3,q2,(g2 H ι w (ZD _) g).trans g3,f3⟩
 | exit id=>exact ⟨fr',H',ι',q,g,f⟩
 | goto l=>exact ⟨fr',H',ι',q,g,f⟩
 | ret=>exact ⟨fr',H',ι',q,g,f⟩
 | panic ch=>exact ⟨fr',H',ι',q,g,f⟩
 | outgrown=>exact ⟨fr',H',ι',q,g,f⟩
theorem Zkk {H n x} :DN H n x x=(refB n x=true\/x= .junk\/ ∃y,cF H n x=some y/\x= .p y):=by
 simp only [DN,true_and,eq_iff_iff]
 grind
@[go_sem] theorem Zki {H n x} :DN H n x .junk=True:=by simp [DN]
@[go_sem] theorem ZoT {H n} {x y:PV} :DN H n (.p x) (.p y)=(y=x):=by simp [DN,refB,cF]
@[go_sem] theorem Zmr {H n o off len tot o' off' len' tot'} :DN H n (.sl o off len tot) (.sl o' off' len' tot')=((o'=o/\off'=off/\len'=len/\tot'=tot)/\o<n):=by simp [DN,refB]
@[go_sem] theorem Zkj {H n o off o' off'} :DN H n (.ptr o off) (.ptr o' off')=((o'=o/\off'=off)/\o<n):=by simp [DN,refB]
theorem tY {H n o off len tot y} :DN H n (.sl o off len tot) (.p y)=(cF H n (.sl o off len tot)=some y):=by simp [DN]
@[go_sem] theorem Zmn {H n} :Og H n [] []=True:=by simp [Og]
@[go_sem] theorem Zkf {H n x l x' l'} :Og H n (x::l) (x'::l')=(DN H n x x'/\Og H n l l'):=by simp [Og]
@[go_sem] theorem Zmo {H n l} :N9 H n l []=True:=by simp [N9]
@[go_sem] theorem Zkg {H n x l x' l'} :N9 H n (x::l) (x'::l')=(EX H n x x'/\N9 H n l l'):=by simp [N9]
@[go_sem] theorem ZfJ {H n cs cs'} :EX H n (.cells cs) (.cells cs')=Og H n cs cs':=by simp [EX]
@[go_sem] theorem ZfK {H n S S' xs xs'} :EX H n (.elems S xs) (.elems S' xs')=(S=S'/\xs=xs'):=by simp [EX]
@[go_sem] theorem Zmp {H n es es2} :EX H n (.map es) (.map es2)=(es=es2):=by simp [EX]
@[go_sem] theorem ZoS {H n o o2} :DN H n (.mp o) (.mp o2)=(o2=o/\o<n):=by simp [DN,refB,cF]
@[go_sem] theorem Zkh {H n} :EX H n .dead .dead=True:=by simp [EX]
theorem Weak.mk {n0 fr H fr' H'} (h:n0<=H'.length/\H'.length<=H.length/\Og H H'.length fr fr'/\N9 H H'.length H H'):Weak n0 fr H fr' H':=Weak.of h.1 h.2.2.1 h.2.2.2 h.2.1
theorem wk {n0 fr H fr' H'} (h:n0<=H'.length/\H'.length<=H.length/\Og H H'.length fr fr'/\N9 H H'.length H H':=by simp (disch:=omega) only [go_sem,seval]):Weak n0 fr H fr' H':=Weak.mk h
theorem we {n0 x H' a b} (h:n0<=List.length b/\List.length b<=H'.length/\Og H' (List.length b) [x] [a]/\N9 H' (List.length b) H' b:=by simp (disch:=omega) only [go_sem,seval]): ∃y H'',Weak n0 [x] H' [y] H''/\y=a/\H''=b:=⟨_,_,Weak.mk h,rfl,rfl⟩
attribute [go_sem] List.length_cons List.length_nil List.cons_append List.nil_append List.append_nil List.map_cons List.map_nil List.drop_zero List.drop_succ_cons List.drop_nil List.take_succ_cons List.take_zero List.take_nil List.all_cons List.all_nil
 Xj V5 and_self true_and and_true Ar Aq Ez Cf JP VC Bool.and_self Z0 if_true YC Vz JQ IntWalk.i64_in IntWalk.i32_in IntWalk.u8_in IntWalk.u64_in IntWalk.u32_in
 beq_self_eq_true KC List.replicate_zero Bool.or_true Bool.true_or Bool.or_false Bool.false_or YB Vd
end Go.AM
namespace Go.AM
open Go.RowKit
theorem RP.weaker {X X':Nat->Prop} {w x v} (h:RP X w x v) (hx: ∀b,X' b->X b):RP X' w x v:=h.ext (w':=w) fun _ hb hs=>⟨fun h=>hb (hx _ h),hs,rfl⟩
theorem Good.forget {F w H' ι' w'} (he:Env F [] w) (hf: ∀b,F b->b<w.heap.size) (g:Good F [] [] w H' ι' w'):Good F [] [] w [] [] w' :=
 .up he ⟨⟨rfl,fun b hb=>by have:=hf b hb;have:=g.size;omega,fun i j b hi=>by simp at hi,fun i b hi=>by simp at hi,fun o cs ho=>by simp at ho,fun o S xs ho=>by simp at ho,fun o es ho=>by simp at ho,fun o T E r bs ho=>by simp at ho⟩,
  g.os,g.tape,g.output,fun b c t h=>(g.shape b c t h).imp (fun h=>absurd h.1 Zb) id,g.size,g.keep,fun _ _ h=>h,fun o ob ho=>by simp at ho⟩
theorem ACalls.pure {P g args} {y:PV} (h:ACalls P g args [] fun x _=>x= .p y):ACalls P g args [] fun x H'=>x= .p y/\H'= []:=by
 refine ⟨h.1,fun F ι w vs hr hv=> ?_⟩;have hι:ι= []:=YA hr.len;subst hι;refine (h.2 F [] w vs hr hv).mono ?_;rintro e w' ⟨x,H',ι',v,rfl,rfl,gd,rv⟩
 cases rv with | p _ _ rp =>
 exact ⟨_,[],[],v,rfl,⟨rfl,rfl⟩,gd.forget hr.env hr.fin,.p _ _ (rp.weaker fun b hb=> .inl (by rcases hb with hb | hb;exact hb;simp at hb))⟩
theorem FC {F:Nat->Prop} {w w':World} {H':List Obj} {ι':List (Option Nat)} {v:Value} {o S n:Nat} {xs:List PV} (hF: ∀b,F b->b<w.heap.size) (hn:xs.length=n) (ho:oat H' o= .elems S xs)
  (gd:Good F [] [] w H' ι' w') (rv:RV F H' ι' w' (.sl o 0 n n) v): ∃ι2,Good F [] [] w [.elems S xs] ι2 w'/\RV F [.elems S xs] ι2 w' (.sl 0 0 n n) v:=by
 have hH:=Xw ho Zb;have hlt:=(ZQ.1 hH).1
 have hlt':o<ι'.length:=by rw [gd.rel.len];exact hlt
 have hι':ι'[o]? =some (ι'[o]):=by simp [hlt']
 have hget: ∀ {i:Nat} {q:Option Nat},[ι'[o]][i]? =some q->i=0/\ι'[o]? =some q:=fun {i q} h=>by
  grind
 have hown: ∀b,Own F [ι'[o]] b->Own F ι' b:=fun b hb=>by
  rcases hb with hb | hb
  ·exact .inl hb
  ·simp at hb;right;rw [hb];simp
 refine ⟨[ι'[o]],⟨⟨⟨rfl,fun b hb=> ?_,fun i j b hi hj=> ?_,fun i b hi=> ?_,fun o' cs ho'=> ?_,fun o' S' xs' ho'=> ?_,fun o' es ho'=>by grind,fun o' T E r bs ho'=>by grind⟩,gd.rel.env.le hown⟩,gd.os,gd.tape,gd.output,fun b c t h=>(gd.shape b c t h).imp (fun h=>absurd h.1 Zb) id,gd.size,gd.keep,fun b hb _ h=> ?_,fun o ob ho=>by simp at ho⟩,?_⟩
 ·have:=hF b hb;have:=gd.size;omega
 ·grind
 ·exact gd.rel.avo o b (hget hi).2
 ·grind
 ·cases o' with
  | zero =>
   simp at ho';obtain ⟨rfl,rfl⟩:=ho';rcases gd.rel.elm o _ _ hH with ⟨e1,e2⟩ | ⟨b,c,t,cap,e1,e2,e3,e4,e5,e6,e7⟩
   ·grind
   ·exact .inr ⟨b,c,t,cap,by grind,e2,e3,e4,e5,e6,fun i x j y hi hj=>(e7 i x j y hi hj).weaker hown⟩
  | succ i=>simp at ho'
 ·simp at h;exact gd.own b hb Zb (by rw [h];simp)
 ·cases rv with
  | slNil _ S2 a h1 h2 =>
   rw [hH] at h2;simp at h2;obtain ⟨rfl,rfl⟩:=h2;exact .slNil 0 S a (by grind) rfl
  | sl _ _ _ _ b S2 cap t xs2 c h1 h2 ht hw hcap hl hlen hm =>
   rw [hH] at h2;simp at h2;obtain ⟨rfl,rfl⟩:=h2;exact .sl 0 0 n n b S cap t xs c (by grind) rfl hn hw hcap hl hlen hm
  | slD _ _ _ _ _ h1=>grind
  | slS _ _ _ _ _ S2 xs2 h1 hne=>grind
  | slC _ _ _ _ _ _ hd=>grind
theorem ACalls.fresh {P g args} {S n:Nat} {xs:List PV} (hn:xs.length=n) (h:ACalls P g args [] fun x H'=> ∃o,x= .sl o 0 n n/\oat H' o= .elems S xs):ACalls P g args [] fun x H'=>x= .sl 0 0 n n/\H'= [.elems S xs]:=by
 refine ⟨h.1,fun F ι w vs hr hv=> ?_⟩;have hι:ι= []:=YA hr.len;subst hι;refine (h.2 F [] w vs hr hv).mono ?_;rintro e w' ⟨x,H',ι',v,rfl,⟨o,rfl,ho⟩,gd,rv⟩;obtain ⟨ι2,g2,r2⟩:=FC hr.fin hn ho gd rv
 grind
theorem ACalls.freshE {P g args} {α:Type} {S:Nat} {f:α->PV} {R:List α->Prop} (h:ACalls P g args [] fun x H'=> ∃l:List α,R l/\ ∃o,x= .sl o 0 l.length l.length/\oat H' o= .elems S (l.map f)) :
  ACalls P g args [] fun x H'=> ∃l:List α,R l/\x= .sl 0 0 l.length l.length/\H'= [.elems S (l.map f)]:=by
 refine ⟨h.1,fun F ι w vs hr hv=> ?_⟩;have hι:ι= []:=YA hr.len;subst hι;refine (h.2 F [] w vs hr hv).mono ?_;rintro e w' ⟨x,H',ι',v,rfl,⟨l,hl,o,rfl,ho⟩,gd,rv⟩;obtain ⟨ι2,g2,r2⟩:=FC hr.fin Zb ho gd rv
 grind
theorem ACalls.frozen {P g args} {S n:Nat} {xs:List PV} (hn:xs.length=n) (h:ACalls P g args [] fun x H'=>x= .sl 0 0 n n/\H'= [.elems S xs]):ACalls P g args [] fun x H'=>x= .p (.list false xs)/\H'= []:=by
 refine ⟨h.1,fun F ι w vs hr hv=> ?_⟩;have hι:ι= []:=YA hr.len;subst hι;refine (h.2 F [] w vs hr hv).mono ?_;rintro e w' ⟨x,H',ι',v,rfl,⟨rfl,rfl⟩,gd,rv⟩;have hk:Keeps (Own F ι') w' (Own F []) w':=fun b hb hs=>⟨fun h=>hb (.inl (by rcases h with h | h;exact h;simp at h)),hs,rfl⟩
 have:=Bw (S:=S) (xs:=xs) (off:=0) (len:=n) (tot:=n) (Own F []) (fun b hb h=>by
  rcases h with h | h
  ·exact (gd.rel.avo 0 b hb).1 h
  ·simp at h) hk gd.rel rfl hn Za rv
 rw [Xj,EF,Ci Za] at this;exact ⟨_,[],[],v,rfl,⟨rfl,rfl⟩,gd.forget hr.env hr.fin,.p _ _ this⟩
theorem ACalls.frozenE {P g args} {α:Type} {S:Nat} {f:α->PV} {R:List α->Prop} (h:ACalls P g args [] fun x H'=> ∃l:List α,R l/\x= .sl 0 0 l.length l.length/\H'= [.elems S (l.map f)]) :
  ACalls P g args [] fun x H'=> ∃l:List α,R l/\x= .p (.list false (l.map f))/\H'= []:=by
 refine ⟨h.1,fun F ι w vs hr hv=> ?_⟩;have hι:ι= []:=YA hr.len;subst hι;refine (h.2 F [] w vs hr hv).mono ?_;rintro e w' ⟨x,H',ι',v,rfl,⟨l,hl,rfl,rfl⟩,gd,rv⟩;have hk:Keeps (Own F ι') w' (Own F []) w':=fun b hb hs=>⟨fun h=>hb (.inl (by rcases h with h | h;exact h;simp at h)),hs,rfl⟩
 have:=Bw (S:=S) (xs:=l.map f) (off:=0) (len:=l.length) (tot:=l.length) (Own F []) (fun b hb h=>by
  rcases h with h | h
  ·exact (gd.rel.avo 0 b hb).1 h
  ·simp at h) hk gd.rel rfl Zb Za rv
 rw [Xj,EF,Ci Zb] at this;exact ⟨_,[],[],v,rfl,⟨l,hl,rfl,rfl⟩,gd.forget hr.env hr.fin,.p _ _ this⟩
theorem ACalls.useV {P g args} {α:Type} {f:α->PV} {R:α->Prop} {H:List Obj} {K:V->List Obj->Prop} (h:ACalls P g args [] fun x H'=> ∃a:α,R a/\x= .p (f a)/\H'= []) (k: ∀a,R a->K (.p (f a)) H) (ha:Xl 0 args=true:=by rfl):ACalls P g args H K:=by
 refine (h.behind ha H).mono ?_;rintro x H' ⟨y',H1,⟨a,ra,rfl,rfl⟩,rfl,rfl⟩
 grind [shV]
theorem ACalls.useE {P g args} {α:Type} {S:Nat} {f:α->PV} {R:List α->Prop} {H:List Obj} {K:V->List Obj->Prop} (h:ACalls P g args [] fun x H'=> ∃l:List α,R l/\x= .sl 0 0 l.length l.length/\H'= [.elems S (l.map f)])
  (k: ∀l,R l->K (.sl H.length 0 l.length l.length) (H++ [.elems S (l.map f)])) (ha:Xl 0 args=true:=by rfl):ACalls P g args H K:=by
 refine (h.behind ha H).mono ?_;rintro x H' ⟨y',H1,⟨l,rl,rfl,rfl⟩,rfl,rfl⟩
 grind [shV,shO]
theorem ACalls.use {P g args} {y:PV} {H:List Obj} {K:V->List Obj->Prop} (h:ACalls P g args [] fun x H'=>x= .p y/\H'= []) (k:K (.p y) H) (ha:Xl 0 args=true:=by rfl):ACalls P g args H K:=by
 refine (h.behind ha H).mono ?_;rintro x H' ⟨y',H1,⟨rfl,rfl⟩,rfl,rfl⟩
 grind [shV]
theorem ACalls.useF {P g args} {S n:Nat} {xs:List PV} {H:List Obj} {K:V->List Obj->Prop} (h:ACalls P g args [] fun x H'=>x= .sl 0 0 n n/\H'= [.elems S xs]) (k:K (.sl H.length 0 n n) (H++ [.elems S xs])) (ha:Xl 0 args=true:=by rfl):ACalls P g args H K:=by
 refine (h.behind ha H).mono ?_;rintro x H' ⟨y',H1,⟨rfl,rfl⟩,rfl,rfl⟩
 grind [shV,shO]
theorem Zd {P:Program} {g:FuncId} {fn:Func} {c:Code} {args:List V} {y:PV} (hf:P.funcs[g]? =some fn) (hb:fn.body=some c) (hg:Zi P g)
  (h:JA [] P c (args++List.replicate (fn.ntmps-args.length) .junk) [] (Bu P fn.results.toList fun x _=>x= .p y)):ACalls P g args [] fun x H'=>x= .p y/\H'= [] :=
 (YO hf hb hg (Zg [] _ _ _ _ h)).pure
theorem UJ (cuts:List Nat) {P:Program} {g:FuncId} {fn:Func} {c:Code} {args:List V} {y:PV} (hf:P.funcs[g]? =some fn) (hb:fn.body=some c) (hg:Zi P g)
  (h:JA cuts P c (args++List.replicate (fn.ntmps-args.length) .junk) [] (Bu P fn.results.toList fun x _=>x= .p y)):ACalls P g args [] fun x H'=>x= .p y/\H'= [] :=
 (YO hf hb hg (Zg cuts _ _ _ _ h)).pure
theorem UI {P:Program} {g:FuncId} {fn:Func} {c:Code} {args:List V} {S n:Nat} {xs:List PV} (hn:xs.length=n) (hf:P.funcs[g]? =some fn) (hb:fn.body=some c) (hg:Zi P g)
  (h:JA [] P c (args++List.replicate (fn.ntmps-args.length) .junk) [] (Bu P fn.results.toList fun x H'=> ∃o,x= .sl o 0 n n/\oat H' o= .elems S xs)):ACalls P g args [] fun x H'=>x= .sl 0 0 n n/\H'= [.elems S xs] :=
 (YO hf hb hg (Zg [] _ _ _ _ h)).fresh hn
theorem GH (cuts:List Nat) {P:Program} {g:FuncId} {fn:Func} {c:Code} {args:List V} {S n:Nat} {xs:List PV} (hn:xs.length=n) (hf:P.funcs[g]? =some fn) (hb:fn.body=some c) (hg:Zi P g)
  (h:JA cuts P c (args++List.replicate (fn.ntmps-args.length) .junk) [] (Bu P fn.results.toList fun x H'=> ∃o,x= .sl o 0 n n/\oat H' o= .elems S xs)):ACalls P g args [] fun x H'=>x= .sl 0 0 n n/\H'= [.elems S xs] :=
 (YO hf hb hg (Zg cuts _ _ _ _ h)).fresh hn
theorem ZV (cuts:List Nat) {P:Program} {g:FuncId} {fn:Func} {c:Code} {args:List V} {α:Type} {S:Nat} {f:α->PV} {R:List α->Prop} (hf:P.funcs[g]? =some fn) (hb:fn.body=some c) (hg:Zi P g)
  (h:JA cuts P c (args++List.replicate (fn.ntmps-args.length) .junk) [] (Bu P fn.results.toList fun x H'=> ∃l:List α,R l/\ ∃o,x= .sl o 0 l.length l.length/\oat H' o= .elems S (l.map f))):ACalls P g args [] fun x H'=> ∃l:List α,R l/\x= .sl 0 0 l.length l.length/\H'= [.elems S (l.map f)] :=
 (YO hf hb hg (Zg cuts _ _ _ _ h)).freshE
theorem Weak.ofNil {n0 fr H fr' H'} (t S:Nat) (h:gt fr t= .p (.list true [])) (hn:n0<=H.length) (k:Weak n0 (pt fr t (.sl H.length 0 0 0)) (H++ [.elems S []]) fr' H'):Weak n0 fr H fr' H' :=
 (Weak.nil t S h hn).trans k
end Go.AM
namespace Go.AM
open Go.RowKit
section
variable {P : Program} {H : List Obj} {t : TypeId} {fr : List V}
def Fb (e:Option (Option Nat×Nat)) (c:Bool) (xs:List PV) (lo hi:V):Option V:=match e,lo,hi with
 | some (none,S),.p (.int _ a),.p (.int _ b)=>if BM S xs=true/\0<=a/\a<=b/\b<=xs.length then some (.p (.list (c&&decide (b=xs.length)) ((xs.take b.toNat).drop a.toNat))) else none
 | _,_,_=>none
def V.isInt : V->Option Int
 | .p (.int _ n)=>some n
 | _=>none
theorem V.isInt_some {x:V} {n} (h:x.isInt=some n): ∃k,x= .p (.int k n):=by
 unfold V.isInt at h;grind
theorem Q8 {d:Int} {x:Operand} :Oe d fr (some x)=(ev fr x).isInt:=rfl
theorem C7 {c xs k k' a b} :(Jz P t c xs a b none).map .p=Fb (We P t) c xs (.p (.int k a)) (.p (.int k' b)):=by
 simp only [Jz,Fb]
 grind
theorem Rb {e c xs lo hi} (h:lo.isInt=none):Fb e c xs lo hi=none:=by
 unfold Fb;grind [V.isInt]
theorem Ra {e c xs lo hi} (h:hi.isInt=none):Fb e c xs lo hi=none:=by
 unfold Fb;grind [V.isInt]
@[go_sem] theorem ZdR {c xs hi} :W7 P H t fr (.p (.list c xs)) none (some hi) none=Fb (We P t) c xs (.p (.int .i64 0)) (ev fr hi):=by
 simp only [W7,Q8]
 cases h:(ev fr hi).isInt with
 | none=>simp [Oe,Ra h]
 | some n=>obtain ⟨k,e⟩:=V.isInt_some h;rw [e,<- C7];rfl
@[go_sem] theorem ZdS {c xs lo} :W7 P H t fr (.p (.list c xs)) (some lo) none none=Fb (We P t) c xs (ev fr lo) (.p (.int .i64 (List.length xs))):=by
 simp only [W7,Q8]
 cases h:(ev fr lo).isInt with
 | none=>simp [Rb h]
 | some n=>obtain ⟨k,e⟩:=V.isInt_some h;rw [e,<- C7];rfl
@[go_sem] theorem uH {c xs lo hi} :W7 P H t fr (.p (.list c xs)) (some lo) (some hi) none=Fb (We P t) c xs (ev fr lo) (ev fr hi):=by
 simp only [W7,Q8]
 cases h:(ev fr lo).isInt with
 | none=>simp [Rb h]
 | some n =>
  cases h2:(ev fr hi).isInt with
  | none=>simp [Ra h2]
  | some m=>grind [V.isInt_some,C7]
@[go_sem] theorem ZgP {α:Type} {f:α->PV} {l:List α} {S c k k' a b} (h0:0<=a) (h1:a<=b) (h2:b<=(l.length:Int)) :
  Fb (some (none,S)) c (l.map f) (.p (.int k a)) (.p (.int k' b))=if BM S (l.map f)=true then some (.p (.list (c&&decide (b=l.length)) (((l.take b.toNat).drop a.toNat).map f))) else none:=by
 simp_all [Fb]
end
def L6 (P:Program) (d:Option TypeDesc) (x i:V):Option V :=
 match d,x,i with
 | some .string,.p (.str s),.p (.int _ n)=>if 0<=n then (s[n.toNat]?).map fun b=> .p (.int .u8 b.toNat) else none
 | some (.array k e),.p (.agg cs),.p (.int _ n)=>if 0<=n/\n<k then (match YZ P e with | some m=>(apart P e cs (n.toNat*m)).map .p | none=>none) else none
 | _,_,_=>none
@[go_sem] theorem Zkz {P:Program} {t:TypeId} {x i:V} :L7 P t x i=L6 P (P.underlying t) x i:=Zk rfl rfl
@[go_sem] theorem Zdx {P:Program} {s:List UInt8} {k n} (h0:0<=n) (h1:n<(s.length:Int)):L6 P (some .string) (.p (.str s)) (.p (.int k n))=some (.p (.int .u8 ((nth s n.toNat).toNat:Nat))):=by
 grind [L6,Zh]
def Ix (d:Option TypeDesc) (s:List UInt8) (lo hi:V):Option V:=match d,lo,hi with
 | some .string,.p (.int _ a),.p (.int _ b)=>if 0<=a/\a<=b/\b<=s.length then some (.p (.str ((s.take b.toNat).drop a.toNat))) else none
 | _,_,_=>none
theorem oI {d s lo hi} (h:lo.isInt=none):Ix d s lo hi=none:=by
 unfold Ix;grind [V.isInt]
theorem oH {d s lo hi} (h:hi.isInt=none):Ix d s lo hi=none:=by
 unfold Ix;grind [V.isInt]
section
variable {P : Program} {H : List Obj} {t : TypeId} {fr : List V}
theorem S0 {s:List UInt8} {k k' a b} :(match P.underlying t with | some .string=>(if 0<=a/\a<=b/\b<=(s.length:Int) then some (V.p (.str ((s.take b.toNat).drop a.toNat))) else none) | _=>none)=Ix (P.underlying t) s (.p (.int k a)) (.p (.int k' b)):=by
 simp only [Ix]
 grind
@[go_sem] theorem oJ {s lo hi} :W7 P H t fr (.p (.str s)) (some lo) (some hi) none=Ix (P.underlying t) s (ev fr lo) (ev fr hi):=by
 simp only [W7,Q8]
 cases h:(ev fr lo).isInt with
 | none=>rw [oI h];simp
 | some n =>
  cases h2:(ev fr hi).isInt with
  | none=>rw [oH h2];simp
  | some m =>
   grind [V.isInt_some,S0]
def Md (e:Option (Option Nat×Nat)) (xs:List PV) (hi mx:V):Option V:=match e,hi,mx with
 | some (none,S),.p (.int _ b),.p (.int _ m)=>if BM S xs=true/\0<=b/\b<=xs.length/\m=b then some (.p (.list true (xs.take b.toNat))) else none
 | _,_,_=>none
theorem oF {e xs hi mx} (h:hi.isInt=none):Md e xs hi mx=none:=by
 unfold Md;grind [V.isInt]
theorem oG {e xs hi mx} (h:mx.isInt=none):Md e xs hi mx=none:=by
 unfold Md;grind [V.isInt]
@[go_sem] theorem uG {c xs hi mx} :W7 P H t fr (.p (.list c xs)) none (some hi) (some mx)=Md (We P t) xs (ev fr hi) (ev fr mx):=by
 simp only [W7,Q8]
 cases h:(ev fr hi).isInt with
 | none=>grind [oF]
 | some n =>
  cases h2:(ev fr mx).isInt with
  | none=>grind [oG]
  | some m =>
   obtain ⟨k,e⟩:=V.isInt_some h;obtain ⟨k2,e2⟩:=V.isInt_some h2;rw [e,e2];simp only [Oe,Jz,Md]
   grind
@[go_sem] theorem ZgO {α:Type} {f:α->PV} {l:List α} {S k k' b m} (h0:m=b) (h1:b=(l.length:Int)):Md (some (none,S)) (l.map f) (.p (.int k b)) (.p (.int k' m))=if BM S (l.map f)=true then some (.p (.list true (l.map f))) else none:=by
 subst h0;subst h1;simp only [Md,Z0]
 by_cases h:BM S (l.map f)=true
 ·simp_all [Ci]
 grind
end
@[go_sem low] theorem dJ {H:List Obj} {S b xs ys o n} :Uq H (some (S,b)) (.elems S xs) o n (some ys)=if xs.length=n/\AD S ys=true/\(n+ys.length)*b<=140737488355328/\n+ys.length<=140737488355328 then some (.sl o 0 (n+ys.length) (n+ys.length),F0 H o (.elems S (xs++ys))) else none:=by simp [Uq]
@[go_sem] theorem Zmq {H:List Obj} {n f a b f' a' b'} :DN H n (.fn f a b) (.fn f' a' b')=((f'=f/\a'=a/\b'=b)/\refB n (.fn f a b)=true):=by simp [DN,cF]
@[go_sem] theorem ZlE {n f a b} :refB n (.fn f a b)=(Xl n a&&Xl n b):=by simp [refB]
@[go_sem] theorem Zno {n x} :refB n (.p x)=true:=by simp [refB]
@[go_sem] theorem Zjc {n o off} :refB n (.ptr o off)=decide (o<n):=by simp [refB]
@[go_sem] theorem ZlF {n o off l t} :refB n (.sl o off l t)=decide (o<n):=by simp [refB]
@[go_sem] theorem ZeB {n} :Xl n []=true:=by simp [Xl]
@[go_sem] theorem ZcE {n x l} :Xl n (x::l)=(refB n x&&Xl n l):=by simp [Xl]
theorem ACalls.useH {P g args H} {v:V} {H2:List Obj} {K:V->List Obj->Prop} (h:ACalls P g args H fun x H'=>x=v/\H'=H2) (k:K v H2):ACalls P g args H K :=
 h.mono (by grind)
theorem BN {α:Type} {f:α->PV} {S:Nat} (h: ∀x,(f x).cells.length=S) (l:List α):BM S (l.map f)=true:=by
 cases l with
 | nil=>rfl
 | cons x l=>simp [BM,h]
@[go_sem] theorem ZkD {k k'} {a b:Int} (h:b<=a):Ir false [.p (.int k a),.p (.int k' b)]=some (.int k a):=by simp [Ir];omega
def QK (F:Option (Nat×Nat×PV)) (H:List Obj) (x y:V):Option (V×List Obj):=match F,x,y with
 | some (S,by',z),.p (.int .i64 n),.p (.int .i64 m)=>if n=m/\0<=n/\(by':Int)*n<=281474976710656/\n<=281474976710656 then some (.sl H.length 0 n.toNat n.toNat,H++ [.elems S (List.replicate n.toNat z)]) else none
 | _,_,_=>none
theorem E7 {P:Program} {t:TypeId} {fr:List V} {H:List Obj} {x y:Operand} {F} (h:RX P t=some F):W0 P (.makeSlice t x y) fr H=QK (some F) H (ev fr x) (ev fr y):=by
 unfold RX at h
 split at h
 ·rename_i e hu
  split at h
  ·rename_i S' z' b h1 h2 h3
   split at h
   ·rename_i hc;simp at h;subst h
    have h3':(P.info? e).map (fun x=>(x.bytes:Int))=some (b:Int):=by
     cases hi:P.info? e with
     | none=>grind
     | some i=>grind
    simp only [W0,hu,h2,hc.1,if_true,P7,h1,h3'];generalize ev fr x=X;generalize ev fr y=Y
    by_cases hX: ∃n,X= .p (.int .i64 n)
    ·obtain ⟨n,rfl⟩:=hX
     by_cases hY: ∃m,Y= .p (.int .i64 m)
     ·obtain ⟨m,rfl⟩:=hY;simp [QK,hc.2]
     ·have e1:QK (some (S',b,z')) H (.p (.int .i64 n)) Y=none:=by
       unfold QK;grind
      grind
    ·have e1:QK (some (S',b,z')) H X Y=none:=by
      unfold QK;grind
     grind
   ·cases h
  ·cases h
 ·cases h
@[go_sem] theorem ZdG {H:List Obj} {S b:Nat} {z n} (h0:0<=n) (h1:(b:Int)*n<=281474976710656) (h2:n<=281474976710656):QK (some (S,b,z)) H (.p (.int .i64 n)) (.p (.int .i64 n))=some (.sl H.length 0 n.toNat n.toNat,H++ [.elems S (List.replicate n.toNat z)]):=by
 simp_all [QK]
theorem Zcu (x y:Nat) (hx:x<9223372036854775808) (hy:y<9223372036854775808):IntKind.i64.wrap ((BitVec.ofInt 64 (x:Int)|||BitVec.ofInt 64 (y:Int)).toNat:Int)=((x|||y:Nat):Int):=by
 have e:(BitVec.ofInt 64 (x:Int)|||BitVec.ofInt 64 (y:Int)).toNat=x|||y:=by
  grind
 have h:x|||y<2^63:=QX Za Za
 grind [IntWalk.i64_in]
theorem nR (x y:Nat) (hx:x<9223372036854775808) (hy:y<9223372036854775808):IntKind.i64.wrap ((BitVec.ofInt 64 (x:Int)&&&BitVec.ofInt 64 (y:Int)).toNat:Int)=((x&&&y:Nat):Int):=by
 grind [Nat.and_le_left,IntWalk.i64_in]
@[go_sem high] theorem cU {P:Program} {t:TypeId} {x y:Nat} (hx:x<9223372036854775808) (hy:y<9223372036854775808):Yi P .or t (.p (.int .i64 (x:Int))) (.p (.int .i64 (y:Int)))=some (.int .i64 ((x|||y:Nat):Int)):=by
 rw [P3];exact ZW (fun q=>some (PV.int .i64 q)) (Zcu x y hx hy)
@[go_sem high] theorem SM {P:Program} {t:TypeId} {x y:Nat} (hx:x<9223372036854775808) (hy:y<9223372036854775808):Yi P .and t (.p (.int .i64 (x:Int))) (.p (.int .i64 (y:Int)))=some (.int .i64 ((x&&&y:Nat):Int)):=by
 rw [cR];exact ZW (fun q=>some (PV.int .i64 q)) (nR x y hx hy)
def pw (k:Nat):Nat:=2^k
theorem EP (k:Nat):pw (k+1)=2*pw k:=by grind [pw]
theorem Kf {k m:Nat} (h:k<=m):pw k<=pw m:=Yr Za h
theorem F7 (k:Nat):0<pw k:=Nat.pow_pos Za
theorem F6 : pw 62=4611686018427387904:=by decide
@[go_sem high] theorem Zdi {P:Program} {t:TypeId} {k'} {a:Int} (h0:0<=a) (h1:a<=62):Yi P .shl t (.p (.int .i64 1)) (.p (.int k' a))=some (.int .i64 ((pw a.toNat:Nat):Int)):=by
 rw [cW h0]
 have h2:min a.toNat IntKind.i64.bits=a.toNat:=by show min a.toNat 64=a.toNat;omega
 rw [h2,Int.one_mul]
 have h3:((2:Int)^a.toNat)=((pw a.toNat:Nat):Int):=by simp [pw]
 rw [h3];have:=Kf (show a.toNat<=62 by omega)
 grind [F6,IntWalk.i64_in]
attribute [go_sem] List.length_append List.map_append not_false_eq_true not_true_eq_false false_and and_false true_or or_true false_or or_false Classical.not_not Bool.false_eq_true Bool.and_false Bool.false_and
end Go.AM
namespace Go.AM
open Go.RowKit
theorem I2 {P ds frJ H} {K K':List V->Prop} : ∀(l:List Oper) (i:Nat) (vals:List V),(∀ys,ys.length=vals.length+l.length->K ys->K' ys)->hd P ds frJ H K i l vals->hd P ds frJ H K' i l vals
 | [],i,vals,hk,h=>hk vals rfl h
 | o::l,i,vals,hk,h=>by
  have ih: ∀y,hd P ds frJ H K (i+1) l (vals++ [y])->hd P ds frJ H K' (i+1) l (vals++ [y]):=fun y=>I2 l (i+1) (vals++ [y]) fun ys hy=>hk ys (by simp at hy ⊢;omega);simp only [hd] at h ⊢
  split at h
  ·obtain ⟨y,h1,h2⟩:=h;exact ⟨y,h1,ih y h2⟩
  ·unfold XO at h ⊢
   split at h
   ·exact ⟨fun e=>by obtain ⟨y,h1,h2⟩:=h.1 e;exact ⟨y,h1,ih y h2⟩,fun e=>ih _ (h.2 e)⟩
   ·exact ih _ h
   ·exact h.elim
def hall : List (Option Nat)->List V->List V->List V
 | some d::ds,v::vals,fr=>hall ds vals (pt fr d v)
 | none::ds,_::vals,fr=>hall ds vals fr
 | _,_,fr=>fr
theorem Bk (d:Option Nat) (v:V) (ds:List (Option Nat)) (vals:List V): ∀(l:List Nat) (fr:List V),ZP (d::ds) (v::vals) (l.map (· +1)) fr=ZP ds vals l fr
 | [],fr=>rfl
 | j::l,fr=>by
  simp only [Zq,ZP,Cf]
  split<;>exact Bk d v ds vals l _
theorem FH : ∀(ds:List (Option Nat)) (vals:List V) (fr:List V),vals.length=ds.length->ZP ds vals (List.range ds.length) fr=hall ds vals fr
 | [],[],fr,_=>rfl
 | d::ds,v::vals,fr,h=>by
  have ih:=fun fr=>FH ds vals fr (by simpa using h);rw [ZB,List.range_succ_eq_map]
  cases d with
  | none=>simp only [ZP,Ez,hall];rw [Bk];exact ih fr
  | some d=>simp only [ZP,Ez,hall];rw [Bk];exact ih _
 | [],_::_,_,h=>by simp at h
 | _::_,[],_,h=>by simp at h
theorem Fc {P:Program} {id:Nat} {l:List Oper} {fr:List V} {H:List Obj} {Q:Exit->List V->List Obj->Prop} {t} (hm:P.follows .mixedOrders=true) (hB:W2 (List.toArray l) l.length=true)
  (h:hd P (l.map (·.dst)) (Z1 (l.map (·.dst)) fr) H (Zu (fun vals=>Q .normal (hall (l.map (·.dst)) vals (Z1 (l.map (·.dst)) fr)) H) ⟨⟩) 0 l []) :
  AWP P (.region id (Zu (List.toArray l) t) true) fr H Q:=by
 refine G8 (ops:=List.toArray l) l.length hm hB ?_;have e0:(List.toArray l).toList=l:=rfl;rw [e0];have e1:(l.map (fun x=>Oper.dst x)).take l.length=l.map (·.dst):=Ci Zb;have e2:l.take l.length=l:=YT
 have e3:l.drop l.length= []:=Zb
 rw [e1,e2,e3];refine I2 _ _ _ (fun ys hy hk=> ?_) h;have e4:=FH (l.map (·.dst)) ys (Z1 (l.map (·.dst)) fr) (by grind);rw [Z0] at e4;simp only [YJ];rw [e4];exact hk
def TA (A:V->Prop) (B:V->Prop):Prop:= ∃y,A y/\B y
section
variable {P : Program} {ds : List (Option Nat)} {frJ : List V} {H : List Obj} {K : List V -> Prop} {i : Nat} {r : List Oper} {vals : List V} {d : Option Nat} {op : Op} {t : TypeId} {ps : String} {af : Array Edge}
@[go_sem ↓] theorem ZmY : hd P ds frJ H K i [] vals=K vals:=Zk rfl rfl
@[go_sem ↓] theorem Zli : hd P ds frJ H K i (⟨d,op,t,ps,af,none⟩::r) vals=TA (fun y=>ZG P ⟨d,op,t,ps,af,none⟩ (I3 (ZP ds vals (ZN i ⟨d,op,t,ps,af,none⟩) frJ)) H (Zu (fun x H'=>x=y/\H'=H) ⟨⟩)) (Zu (fun y=>hd P ds frJ H K (i+1) r (vals++ [y])) ⟨⟩):=Zk rfl rfl
@[go_sem ↓, go_sem] theorem ZmO {v:V} {B:V->Prop} {t} :TA (fun y=>v=y) (Zu B t)=B v:=by simp [TA,Zu]
@[go_sem] theorem Zeb {l:List Edge} {g} :ZN i ⟨d,op,t,ps,List.toArray l,g⟩=(l.filter fun e=>Region.binds .any e&&decide (e.on<i)).map (·.on):=Zk rfl rfl
@[go_sem] theorem xU {on} :Region.binds .any ⟨on,.data⟩=true:=Zk rfl rfl
@[go_sem] theorem uU {on} :Region.binds .any ⟨on,.phase⟩=true:=Zk rfl rfl
@[go_sem] theorem uT {on} :Region.binds .any ⟨on,.chain⟩=true:=Zk rfl rfl
@[go_sem] theorem xV {on k} :Region.binds .any ⟨on,.textOnly k⟩=false:=Zk rfl rfl
@[go_sem] theorem ZgV {on k} :Region.binds .any ⟨on,.gcOnly k⟩=false:=Zk rfl rfl
def RF (ds:List (Option Nat)) (vals:List V) (l:List Nat) (fr:List V) (a:Option (Option Nat)) (v:Option V):List V:=match a,v with
 | some (some d),some v=>ZP ds vals l (pt fr d v)
 | _,_=>ZP ds vals l fr
@[go_sem] theorem Zhv {fr} :ZP ds vals [] fr=fr:=Zk rfl rfl
@[go_sem] theorem Zel {j l fr} :ZP ds vals (j::l) fr=RF ds vals l fr ds[j]? vals[j]? :=by rfl
@[go_sem] theorem yZ {l fr d v} :RF ds vals l fr (some (some d)) (some v)=ZP ds vals l (pt fr d v):=Zk rfl rfl
@[go_sem] theorem Zef {d ds v vals fr} :hall (some d::ds) (v::vals) fr=hall ds vals (pt fr d v):=Zk rfl rfl
@[go_sem] theorem Zhp {fr} :hall [] [] fr=fr:=Zk rfl rfl
@[go_sem] theorem Zek {fr} :Z1 [] fr=fr:=Zk rfl rfl
@[go_sem] theorem yY {d l fr} :Z1 (some d::l) fr=Z1 l (pt fr d .junk):=Zk rfl rfl
theorem Zo {f azs} {z:PV} {B:V->Prop} {t} (h:ACalls P f azs [] fun x H'=>x= .p z/\H'= []) (k:B (.p z)) (ha:Xl 0 azs=true:=by rfl) :
  TA (fun y=>ACalls P f azs H (Zu (Zu (fun x H'=>x=y/\H'=H) ⟨⟩) ⟨⟩)) (Zu B t) :=
 ⟨.p z,h.use ⟨rfl,rfl⟩ ha,k⟩
end
section
variable {P : Program} {fr : List V} {H : List Obj} {k : V -> List Obj -> Prop} {d : Option Nat} {t : TypeId} {ps : String} {af : Array Edge} {g : Option (Nat × Bool)}
@[go_sem ↓] theorem xH {u n l} :ZG P ⟨d,.buildSlice u n (List.toArray l),t,ps,af,g⟩ fr H k=Bs ((P5 (UR P u) H n (l.map fun x=>(x.1,ev fr x.2))).map .p) (Zu (fun v=>k v H) ⟨⟩):=by
 grind [ZG,Bs,Zu]
@[go_sem] theorem wP {S n l} :P5 (some S) H n l=if n=l.length/\n*S<=16777216/\0<S then (Ji H S 0 l).map (.list false) else none:=Zk rfl rfl
@[go_sem ↓] theorem uK {x} :ZG P ⟨d,.move x,t,ps,af,g⟩ fr H k=Zw P ⟨d,.move x,t,ps,af,g⟩ fr H k:=rfl
@[go_sem ↓] theorem nC {x} :ZG P ⟨d,.assign x,t,ps,af,g⟩ fr H k=Zw P ⟨d,.assign x,t,ps,af,g⟩ fr H k:=rfl
@[go_sem ↓] theorem uL {x y z} :ZG P ⟨d,.pick x y z,t,ps,af,g⟩ fr H k=Zw P ⟨d,.pick x y z,t,ps,af,g⟩ fr H k:=rfl
@[go_sem ↓] theorem oK {x} :ZG P ⟨d,.alloc x,t,ps,af,g⟩ fr H k=Zw P ⟨d,.alloc x,t,ps,af,g⟩ fr H k:=rfl
@[go_sem ↓] theorem xF {x y} :ZG P ⟨d,.box x y,t,ps,af,g⟩ fr H k=Zw P ⟨d,.box x y,t,ps,af,g⟩ fr H k:=rfl
@[go_sem ↓] theorem oM {x y} :ZG P ⟨d,.build x y,t,ps,af,g⟩ fr H k=Zw P ⟨d,.build x y,t,ps,af,g⟩ fr H k:=rfl
@[go_sem ↓] theorem uJ {x y} :ZG P ⟨d,.load x y,t,ps,af,g⟩ fr H k=Zw P ⟨d,.load x y,t,ps,af,g⟩ fr H k:=rfl
@[go_sem ↓] theorem oQ {x y z} :ZG P ⟨d,.store x y z,t,ps,af,g⟩ fr H k=Zw P ⟨d,.store x y z,t,ps,af,g⟩ fr H k:=rfl
@[go_sem ↓] theorem bW {x} :ZG P ⟨d,.nilCheck x,t,ps,af,g⟩ fr H k=Zw P ⟨d,.nilCheck x,t,ps,af,g⟩ fr H k:=rfl
@[go_sem ↓] theorem oL {x y z u v} :ZG P ⟨d,.binOp x y z u v,t,ps,af,g⟩ fr H k=Zw P ⟨d,.binOp x y z u v,t,ps,af,g⟩ fr H k:=rfl
@[go_sem ↓] theorem uM {x y z} :ZG P ⟨d,.unOp x y z,t,ps,af,g⟩ fr H k=Zw P ⟨d,.unOp x y z,t,ps,af,g⟩ fr H k:=rfl
@[go_sem ↓] theorem dP {x y z} :ZG P ⟨d,.convert x y z,t,ps,af,g⟩ fr H k=Zw P ⟨d,.convert x y z,t,ps,af,g⟩ fr H k:=rfl
@[go_sem ↓] theorem bV {x y z} :ZG P ⟨d,.makeFunc x y z,t,ps,af,g⟩ fr H k=Zw P ⟨d,.makeFunc x y z,t,ps,af,g⟩ fr H k:=rfl
@[go_sem ↓] theorem S5 {x y z} :ZG P ⟨d,.makeSlice x y z,t,ps,af,g⟩ fr H k=Zw P ⟨d,.makeSlice x y z,t,ps,af,g⟩ fr H k:=rfl
@[go_sem ↓] theorem oP {x y z u v} :ZG P ⟨d,.slice x y z u v,t,ps,af,g⟩ fr H k=Zw P ⟨d,.slice x y z u v,t,ps,af,g⟩ fr H k:=rfl
@[go_sem ↓] theorem S1 {x y z} :ZG P ⟨d,.fieldAddr x y z,t,ps,af,g⟩ fr H k=Zw P ⟨d,.fieldAddr x y z,t,ps,af,g⟩ fr H k:=rfl
@[go_sem ↓] theorem oN {x y z} :ZG P ⟨d,.field x y z,t,ps,af,g⟩ fr H k=Zw P ⟨d,.field x y z,t,ps,af,g⟩ fr H k:=rfl
@[go_sem ↓] theorem S4 {x y z} :ZG P ⟨d,.indexAddr x y z,t,ps,af,g⟩ fr H k=Zw P ⟨d,.indexAddr x y z,t,ps,af,g⟩ fr H k:=rfl
@[go_sem ↓] theorem oO {x y z} :ZG P ⟨d,.index x y z,t,ps,af,g⟩ fr H k=Zw P ⟨d,.index x y z,t,ps,af,g⟩ fr H k:=rfl
@[go_sem ↓] theorem dQ {x y} :ZG P ⟨d,.extract x y,t,ps,af,g⟩ fr H k=Zw P ⟨d,.extract x y,t,ps,af,g⟩ fr H k:=rfl
@[go_sem ↓] theorem uI {x y z} :ZG P ⟨d,.call ⟨.value x,y,z⟩,t,ps,af,g⟩ fr H k=Zw P ⟨d,.call ⟨.value x,y,z⟩,t,ps,af,g⟩ fr H k:=rfl
@[go_sem ↓] theorem xG {y z} :ZG P ⟨d,.call ⟨.builtin .len,y,z⟩,t,ps,af,g⟩ fr H k=Zw P ⟨d,.call ⟨.builtin .len,y,z⟩,t,ps,af,g⟩ fr H k:=rfl
@[go_sem ↓] theorem xI {y z} :ZG P ⟨d,.call ⟨.builtin .max,y,z⟩,t,ps,af,g⟩ fr H k=Zw P ⟨d,.call ⟨.builtin .max,y,z⟩,t,ps,af,g⟩ fr H k:=rfl
@[go_sem ↓] theorem xJ {y z} :ZG P ⟨d,.call ⟨.builtin .min,y,z⟩,t,ps,af,g⟩ fr H k=Zw P ⟨d,.call ⟨.builtin .min,y,z⟩,t,ps,af,g⟩ fr H k:=rfl
def Ru (P:Program) (H:List Obj) (t u:TypeId) (x y:V) (k:V->List Obj->Prop):Prop:= ∃S zs,WZ P H t u x y=some (.sl H.length 0 zs.length zs.length,H++ [.elems S zs])/\k (.p (.list false zs)) H
@[go_sem ↓] theorem nB {x y u u2} :ZG P ⟨d,.call ⟨.builtin .append,#[x,y],#[u,u2]⟩,t,ps,af,g⟩ fr H k=Ru P H u u2 (ev fr x) (ev fr y) (Zu k ⟨⟩):=rfl
def SY (F:Option (Nat×Nat)) (xs:List PV) (ys:Option (List PV)):Option PV:=match F,ys with
 | some (S,by'),some ys=>if AD S ys=true/\AD S xs=true/\(xs= []\/0<ys.length)/\(xs.length+ys.length)*by'<=140737488355328/\xs.length+ys.length<=140737488355328 then some (.list false (xs++ys)) else none
 | _,_=>none
@[go_sem] theorem ZdQ {α:Type} {S b} {f:α->PV} {l:List α} {x:PV} (hb:(l.length+1)*b<=140737488355328) (hb2:l.length+1<=140737488355328):SY (some (S,b)) (l.map f) (some [x])=if AD S [x]=true/\AD S (l.map f)=true then some (.list false (l.map f++ [x])) else none:=by
 grind [SY]
theorem OW {u u2:TypeId} {F} {xs:List PV} {y:V} (hF:QM P u=some F) {tt} :Ru P H u u2 (.p (.list true xs)) y (Zu k tt)=Bs ((SY (some F) xs (YI (P.underlying u2) H y)).map .p) (Zu (fun v=>k v H) ⟨⟩):=by
 obtain ⟨S,by'⟩:=F;obtain ⟨e,z,h1,h2,h3,h4,h6⟩:=E9 hF;have e1:YI (P.underlying u2) H y=GJ P H u2 y:=Zk rfl rfl;rw [e1];unfold Ru Zu
 cases h5:GJ P H u2 y with
 | none =>
  grind [WZ,SY,Bs]
 | some ys =>
  rw [Ij h1 h2 h3 h4 h5 h6];simp only [SY]
  by_cases hc:AD S ys=true
  ·rw [if_pos hc];simp only [hc,true_and]
   by_cases hd:AD S xs=true/\(xs= []\/0<ys.length)/\(xs.length+ys.length)*by'<=140737488355328/\xs.length+ys.length<=140737488355328
   ·rw [if_pos hd,if_pos hd];simp only [Ar,Bs,eq_iff_iff]
    constructor
    ·simp_all
    ·intro hk;exact ⟨S,xs++ys,Zb,hk⟩
   simp_all [if_neg,Bs]
  ·simp [hc,Bs]
theorem Iz {o fr' H'} (h:fr=fr') (h2:H=H'):ZG P o fr H k=ZG P o fr' H' k:=by rw [h,h2]
end
attribute [congr] Iz
attribute [go_sem] List.filter_cons List.filter_nil
end Go.AM
namespace Go.AM
open Go.RowKit
mutual
/-- no memory in it -/
def O4 : PV->Bool
 | .list _ xs=>xs.isEmpty
 | .agg cs=>MJ cs
 | _=>true
def MJ : List PV->Bool
 | []=>true
 | x::l=>O4 x&&MJ l
end
theorem Af : ∀ {l:List PV},MJ l=true-> ∀(j:Nat) (x:PV),l[j]? =some x->O4 x=true
 | [],_,j,x,h=>by simp at h
 | y::l,hh,j,x,h=>by
  simp [MJ] at hh
  cases j with
  | zero=>simp at h;subst h;exact hh.1
  | succ j=>exact Af hh.2 j x (by simpa using h)
theorem RP.anywhere {X X':Nat->Prop} {w w' x v} (h:RP X w x v) (hf:O4 x=true):RP X' w' x v:=by
 induction h with
 | int k n=>exact .int k n
 | bool b=>exact .bool b
 | str s=>exact .str s
 | nilp=>exact .nilp
 | nili=>exact .nili
 | nilf=>exact .nilf
 | nilm=>exact .nilm
 | fn f=>exact .fn f
 | nils cl=>exact .nils cl
 | emp cl a cap hc hm ha=>exact .emp cl a cap hc hm ha
 | list cl xs b off cap S u hX hb hc hm hcl hS hu hr ih =>
  have:xs= []:=by grind [O4]
  subst this;exact .emp cl _ cap (fun h=>by grind) hm (fun _ x hx=>by grind)
 | agg cs a hs _ ih=>exact .agg cs a hs fun j c hj=>ih j c hj (Af (by grind [O4]) j c hj)
def vw (H:List Obj):V->Option V
 | .p x=>some (.p x)
 | .fn f [] []=>some (.fn f [] [])
 | .sl o off len tot=>match oat H o with
  | .elems _ xs=>if xs.length=tot/\off+len<=tot then some (.p (.list false ((xs.take (off+len)).drop off))) else none
  | _=>none
 | _=>none
def vws (H:List Obj):List V->Option (List V)
 | []=>some []
 | x::l=>match vw H x,vws H l with | some y,some ys=>some (y::ys) | _,_=>none
abbrev AW : Nat->Prop:=fun _=>False
theorem CD {b:Nat} : ¬Own AW [] b:=by simp [Own]
theorem Zjf {F H ι w x v y} (hr:Rel F H ι w) (h:RV F H ι w x v) (hy:vw H x=some y):RV AW [] [] w y v:=by
 unfold vw at hy
 split at hy
 ·simp at hy;subst hy
  cases h with | p _ _ h=>exact .p _ _ (h.weaker fun b hb=>absurd hb CD)
 ·simp at hy;subst hy;generalize v=u at h
  cases h with
  | fn _ _ _ a e hs ht _ _=>exact .fn _ [] [] a e hs ht (fun j c hj=>by simp at hj) (fun j c hj=>by simp at hj)
 ·rename_i o off len tot
  split at hy
  ·rename_i S xs ho
   split at hy
   ·rename_i hc;simp at hy;subst hy;exact .p _ _ (Bw _ (fun b _ hb=>CD hb) (fun b _ hs=>⟨CD,hs,rfl⟩) hr (Xw ho Zb) hc.1 hc.2 h)
   ·cases hy
  ·cases hy
 ·cases hy
theorem SI {H} : ∀ {l l':List V},vws H l=some l'->l'.length=l.length/\ ∀(j:Nat) (y:V),l'[j]? =some y-> ∃x,l[j]? =some x/\vw H x=some y
 | [],l',h=>by simp [vws] at h;grind
 | x::l,l',h=>by
  simp only [vws] at h
  split at h
  ·rename_i y ys h1 h2;simp at h;subst h;obtain ⟨e,hg⟩:=SI h2;refine ⟨by simp [e],fun j z hj=> ?_⟩
   cases j with
   | zero=>simp at hj;subst hj;exact ⟨x,Zb,h1⟩
   | succ j=>obtain ⟨q,q1,q2⟩:=hg j z (by simpa using hj);exact ⟨q,by simpa using q1,q2⟩
  ·cases h
theorem Good.lift {F H ι w H1 ι1 w'} (hr:Rel F H ι w) (g:Good AW [] [] w H1 ι1 w') (h1: ∀(o:Nat) (ob:Obj),H1[o]? =some ob-> ∃S xs,ob= .elems S xs/\MJ xs=true):Good (Own F ι) [] [] w H1 ι1 w':=by
 have hnew: ∀b,some b∈ι1-> ¬b<w.heap.size:=fun b hb hlt=>g.own b hlt Zb hb
 have hold: ∀b,Own F ι b->b<w.heap.size:=fun b hb=>by
  rcases hb with hb | hb
  ·exact hr.fin b hb
  ·obtain ⟨i,hi⟩:=Xd.1 hb;exact (hr.avo i b hi).2
 refine Good.up hr.env.fresh ⟨⟨g.rel.len,fun b hb=>by have:=hold b hb;have:=g.size;omega,g.rel.inj,fun i b hi=> ?_,fun o cs ho=> ?_,fun o S xs ho=> ?_,fun o es ho=>(by grind),fun o T E r bs ho=>(by grind)⟩,g.os,g.tape,g.output,g.shape,g.size,g.keep,g.own,g.hx⟩
 ·refine ⟨fun hb=>hnew b (XA hi) (hold b hb),(g.rel.avo i b hi).2⟩
 ·grind
 ·rcases g.rel.elm o S xs ho with e | ⟨b,c,t,cap,e1,e2,e3,e4,e5,e6,e7⟩
  ·exact .inl e
  ·refine .inr ⟨b,c,t,cap,e1,e2,e3,e4,e5,e6,fun i x j y hi hj=> ?_⟩;obtain ⟨S',xs',e,hf⟩:=h1 o _ ho;simp at e;obtain ⟨rfl,rfl⟩:=e;have hx:=Af hf i x hi;refine (e7 i x j y hi hj).anywhere ?_
   cases x<;>simp only [PV.cells] at hj
   case agg cs=>grind [Af,O4]
   all_goals (cases j with
    | zero=>simp at hj;subst hj;exact hx
    | succ j=>simp at hj)
theorem Gb {w:World} (he:Env AW [] w):Rel AW [] [] w:=⟨⟨rfl,fun b hb=>hb.elim,fun i j b hi=>by simp at hi,fun i b hi=>by simp at hi,fun o cs ho=>by simp at ho,fun o S xs ho=>by simp at ho,fun o es ho=>by simp at ho,fun o T E r bs ho=>by simp at ho⟩,he⟩
theorem ACalls.view {P g args args'} {y:PV} {H:List Obj} {K:V->List Obj->Prop} (h:ACalls P g args' [] fun x H'=>x= .p y/\H'= []) (hv:vws H args=some args') (hy:O4 y=true) (k:K (.p y) H):ACalls P g args H K:=by
 refine ⟨h.1,fun F ι w vs hr hvs=> ?_⟩;obtain ⟨e,hg⟩:=SI hv;refine (h.2 AW [] w vs (Gb hr.env.noth) ⟨by rw [hvs.1,e],fun j c hj=> ?_⟩).mono ?_
 ·obtain ⟨x,h1,h2⟩:=hg j c hj;exact Zjf hr (hvs.2 j x h1) h2
 ·rintro e w' ⟨x,H',ι',v,rfl,⟨rfl,rfl⟩,gd,rv⟩;have g2:=(gd.lift hr (fun o ob ho=>by simp at ho)).behind hr;have hι:ι'= []:=YA gd.rel.len;subst hι;simp only [Zm,Wl] at g2
  cases rv with | p _ _ rp =>
  exact ⟨_,H,ι,v,rfl,k,g2,.p _ _ (rp.anywhere hy)⟩
def rd1 (H:List Obj):V->Option PV
 | .p x=>some x
 | .sl o off len tot=>match oat H o with
  | .elems _ xs=>if xs.length=tot/\off+len<=tot then some (.list false ((xs.take (off+len)).drop off)) else none
  | _=>none
 | _=>none
def rds (H:List Obj):List V->Option (List PV)
 | []=>some []
 | x::l=>match rd1 H x,rds H l with | some y,some ys=>some (y::ys) | _,_=>none
def rd (H:List Obj):V->Option PV
 | .agg cs=>(rds H cs).map .agg
 | x=>rd1 H x
@[go_sem] theorem ZkB {o off len tot r} :Qn (.sl o off len tot::r)=none:=Zk rfl rfl
attribute [go_sem] Option.map_none
end Go.AM
namespace Go.Proofs.YtenjikkmmibffaaGreatDoor.K
open Go Go.AM
def Ed (be:List (Int×Int)) (a b:Nat):Prop:= ∃p∈be,p.1=(a:Int)/\p.2=(b:Int)
inductive Ch (be:List (Int×Int)):Nat->Nat->Prop where
 | one {a b} (h:Ed be a b):Ch be a b
 | more {a b c} (h:Ch be a b) (k:Ed be b c):Ch be a c
def Val (n:Nat) (be:List (Int×Int)):Prop:= ∀p∈be,0<=p.1/\p.1<n/\0<=p.2/\p.2<n
def Ea (out:List Nat) (p:Int×Int):List Nat:=out.set p.2.toNat (nth out p.2.toNat|||nth out p.1.toNat|||pw p.1.toNat)
def EN (out:List Nat) (be:List (Int×Int)):List Nat:=be.foldl Ea out
structure Snd (n:Nat) (be:List (Int×Int)) (out:List Nat):Prop where
 len:out.length=n
 lt: ∀b,b<n->nth out b<pw n
 snd: ∀a b,b<n->(nth out b).testBit a=true->Ch be a b
structure Clo (n:Nat) (be:List (Int×Int)) (out:List Nat):Prop extends Snd n be out where
 cmp: ∀a b,Ch be a b->(nth out b).testBit a=true
theorem EJ (l:List Nat) (i j v:Nat) (h:j<l.length):nth (l.set i v) j=if i=j then v else nth l j:=by
 grind [nth]
theorem Snd.zero (n be):Snd n be (List.replicate n 0):=by
 refine ⟨Zb,fun b hb=> ?_,fun a b hb h=> ?_⟩
 ·grind [Zh,F7]
 grind [Zh]
theorem J8 (a b:Nat):(pw a).testBit b=decide (a=b):=by grind [pw]
theorem Snd.step {n be out} (hv:Val n be) (hs:Snd n be out) {p} (hp:p∈be):Snd n be (Ea out p):=by
 obtain ⟨h1,h2,h3,h4⟩:=hv p hp;refine ⟨by simp [Ea,hs.len],fun b hb=> ?_,fun a b hb h=> ?_⟩
 ·rw [Ea,EJ _ _ _ _ (by rw [hs.len];exact hb)]
  split
  ·have e1:=hs.lt p.2.toNat Za;have e2:=hs.lt p.1.toNat Za
   have e3:pw p.1.toNat<pw n:=by
    have:=EP p.1.toNat;have h5:pw (p.1.toNat+1)<=pw n:=Kf Za;omega
   exact QX (QX e1 e2) e3
  ·exact hs.lt b hb
 ·rw [Ea,EJ _ _ _ _ (by rw [hs.len];exact hb)] at h
  split at h
  ·rename_i hb2;have hE:Ed be p.1.toNat b:=⟨p,hp,Za,Za⟩;simp only [As,Vb] at h;rcases h with (h | h) | h
   ·exact hs.snd a b hb (by grind)
   ·exact (hs.snd a _ Za h).more hE
   ·rw [J8] at h;simp at h;subst h;exact .one hE
  ·exact hs.snd a b hb h
theorem Snd.rnd {n be out} (hv:Val n be) (hs:Snd n be out): ∀(l:List (Int×Int)),(∀p∈l,p∈be)->Snd n be (EN out l):=by
 intro l
 induction l generalizing out with
 | nil=>intro _;exact hs
 | cons p l ih=>intro h;exact ih (hs.step hv (h p Zb)) fun q hq=>h q (by simp [hq])
theorem vM (x y:Nat):x<=x|||y:=Nat.left_le_or
def tot (l:List Nat):Nat:=l.foldr (· + ·) 0
theorem SD : ∀(l:List Nat) (i v:Nat),i<l.length->tot (l.set i v)+nth l i=tot l+v
 | [],i,v,h=>by simp at h
 | x::l,0,v,h=>by simp [tot,nth];omega
 | x::l,i+1,v,h=>by
  have:=SD l i v (by simpa using h);simp only [Z8,tot,List.foldr_cons,nth,List.getD_cons_succ] at this ⊢;omega
theorem mM : ∀(l:List Nat) (m:Nat),(∀i,i<l.length->nth l i<m)->tot l<=l.length*m
 | [],m,h=>by simp [tot]
 | x::l,m,h=>by
  have h0:=h 0 Zb
  have:=mM l m fun i hi=>by have:=h (i+1) (by grind);grind [nth]
  grind [tot,XN,nth]
theorem Rn (out:List Nat) (p:Int×Int) (h:p.2.toNat<out.length):tot out<=tot (Ea out p)/\(tot (Ea out p)=tot out->Ea out p=out):=by
 have e:=SD out p.2.toNat (nth out p.2.toNat|||nth out p.1.toNat|||pw p.1.toNat) h;have h1:nth out p.2.toNat<=nth out p.2.toNat|||nth out p.1.toNat|||pw p.1.toNat:=Aw (vM _ _) (vM _ _);refine ⟨by rw [Ea];omega,fun he=> ?_⟩;rw [Ea] at he ⊢
 have:nth out p.2.toNat|||nth out p.1.toNat|||pw p.1.toNat=nth out p.2.toNat:=Za
 simp_all [Zh]
theorem Po (out l m):EN out (l++m)=EN (EN out l) m:=by grind [EN]
theorem CE {n be} (hv:Val n be): ∀(l:List (Int×Int)) (out:List Nat),(∀p∈l,p∈be)->Snd n be out->tot out<=tot (EN out l)/\(tot (EN out l)=tot out->EN out l=out/\ ∀p∈l,Ea out p=out)
 | [],out,_,_=>⟨ZD _,fun _=>⟨rfl,fun p hp=>by simp at hp⟩⟩
 | p::l,out,hl,hs=>by
  obtain ⟨h1,h2,h3,h4⟩:=hv p (hl p Zb);have c:=Rn out p (by rw [hs.len];omega);have r:=CE hv l (Ea out p) (fun q hq=>hl q (by simp [hq])) (hs.step hv (hl p Zb));refine ⟨Aw c.1 r.1,fun e=> ?_⟩;have e:tot (EN (Ea out p) l)=tot out:=e
  have e1:tot (Ea out p)=tot out:=Za
  have e2:=c.2 e1
  have e3:tot (EN (Ea out p) l)=tot (Ea out p):=Za
  obtain ⟨e4,e5⟩:=r.2 e3;rw [e2] at e4 e5;refine ⟨by grind [EN],fun q hq=> ?_⟩
  grind
theorem Snd.clo {n be out} (hv:Val n be) (hs:Snd n be out) (h:tot (EN out be)=tot out):Clo n be out:=by
 have hc:=((CE hv be out (fun _ h=>h) hs).2 h).2
 have key: ∀p∈be,∀a,(a=p.1.toNat\/(nth out p.1.toNat).testBit a=true)->(nth out p.2.toNat).testBit a=true:=fun p hp a ha=>by
  obtain ⟨h1,h2,h3,h4⟩:=hv p hp;have e:=hc p hp
  have e2:nth (Ea out p) p.2.toNat=nth out p.2.toNat:=by rw [e]
  rw [Ea,EJ _ _ _ _ (by rw [hs.len];omega)] at e2;simp only [if_true] at e2;rw [<- e2];simp only [As,Vb,J8,Zs]
  grind
 refine ⟨hs,fun a b hab=> ?_⟩
 induction hab with
 | one h =>
  obtain ⟨p,hp,e1,e2⟩:=h;have:=key p hp p.1.toNat (.inl rfl)
  grind
 | more _ h ih =>
  obtain ⟨p,hp,e1,e2⟩:=h;have:=key p hp _ (.inr (by rw [e1];exact ih))
  grind
theorem Clo.uniq {n be out out'} (hv:Val n be) (h:Clo n be out) (h':Clo n be out'):out=out':=by
 apply QY (by rw [h.len,h'.len]);intro b h1 h2;rw [<- Zh h1,<- Zh h2];apply Cn;intro a;rw [Wm];rw [h.len] at h1;exact ⟨fun e=>h'.cmp a b (h.snd a b h1 e),fun e=>h.cmp a b (h'.snd a b h1 e)⟩
theorem Snd.bound {n be out} (hs:Snd n be out):tot out<=n*pw n:=by
 have:=mM out (pw n) fun i hi=>hs.lt i (by rw [<- hs.len];exact hi);rwa [hs.len] at this
theorem fD {n be} (hv:Val n be): ∀(k:Nat) (out:List Nat),Snd n be out->n*pw n-tot out<k-> ∃out',Clo n be out'
 | 0,out,_,h=>Za
 | k+1,out,hs,h=>by
  by_cases he:tot (EN out be)=tot out
  ·exact ⟨out,hs.clo hv he⟩
  ·have hp:=hs.rnd hv be fun _ h=>h;have:=hp.bound;have:=(CE hv be out (fun _ h=>h) hs).1;exact fD hv k (EN out be) hp Za
noncomputable def Ka (n:Nat) (be:List (Int×Int)):List Nat:=open Classical in if h: ∃out,Clo n be out then h.choose else []
theorem Fl {n be} (hv:Val n be):Clo n be (Ka n be):=by
 have h:=fD hv _ (List.replicate n 0) (Snd.zero n be) (Nat.lt_succ_self _);rw [Ka,dif_pos h]
 grind
theorem fC {n be out} (hv:Val n be) (h:Clo n be out):Ka n be=out:=(Fl hv).uniq hv h
theorem UW {n be} (hv:Val n be) (a b:Nat) (hb:b<n):(nth (Ka n be) b).testBit a=true↔Ch be a b :=
 ⟨(Fl hv).snd a b hb,(Fl hv).cmp a b⟩
end Go.Proofs.YtenjikkmmibffaaGreatDoor.K
