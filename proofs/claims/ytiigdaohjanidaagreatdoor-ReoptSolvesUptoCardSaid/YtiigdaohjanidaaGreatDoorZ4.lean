/- Declarations that the closing texts need, part 4: joined by tools/slim.py. -/
import Derived.Test.YtiigdaohjanidaaGreatDoorZ3
set_option linter.unusedVariables false
set_option linter.unusedSimpArgs false
universe u
namespace Go.AM
open Go.RowKit
structure Tk {α:Sort u} (a:α):Type where
def Zy {α:Sort u} (a:α) (_:Tk a):α:=a
@[go_sem] theorem ZdB {α β:Type} {f:α->β} {t x} :Zy f t x=f x:=ZP rfl rfl
@[go_sem ↓] theorem ZdC {α β:Type} {f:α->β->Prop} {t x y} :Zy f t x y=f x y:=ZP rfl rfl
@[go_sem ↓] theorem ZdD {α β γ:Type} {f:α->β->γ->Prop} {t x y z} :Zy f t x y z=f x y z:=ZP rfl rfl
def Di (x:Option V) (K:V->Prop):Prop:=match x with | some v=>K v | none=>False
def Ax (x:Option (V×List Obj)) (K:V->List Obj->Prop):Prop:=match x with | some (v,H)=>K v H | none=>False
def bst (x:V) (K:Bool->Prop):Prop:=match x with | .p (.bool b)=>K b | _=>False
def hst (x:Option (List Obj)) (K:List Obj->Prop):Prop:=match x with | some H=>K H | none=>False
@[go_sem ↓, go_sem] theorem ZiM {v K} :Di (some v) K=K v:=ZP rfl rfl
@[go_sem ↓, go_sem] theorem Ziq {v H K} :Ax (some (v,H)) K=K v H:=ZP rfl rfl
@[go_sem ↓, go_sem] theorem Zhh {H K} :hst (some H) K=K H:=ZP rfl rfl
@[congr] theorem ZdT {x x' K} (h:x=x'):Di x K=Di x' K:=by rw [h]
@[congr] theorem ZdM {x x' K} (h:x=x'):Ax x K=Ax x' K:=by rw [h]
@[congr] theorem ZdE {x x' K} (h:x=x'):hst x K=hst x' K:=by rw [h]
def NI (fr:List V):List V:=fr
@[go_sem] theorem ZmS {fr} :NI fr=fr:=ZP rfl rfl
section code
variable {cuts : List Nat} {P : Program} {fr : List V} {H : List Obj} {Q : Exit -> List V -> List Obj -> Prop}
@[go_sem ↓] theorem Zdr : Q7 cuts P .skip fr H Q=Q .normal fr H:=ZP rfl rfl
@[go_sem ↓] theorem sL {id} {l:List Oper} :Q7 cuts P (.region id l.toArray false) fr H Q=YJ P (l.map (·.dst)) l (NI fr) H (Zy (Q .normal) ⟨⟩):=by rfl
@[go_sem ↓] theorem vK {id ops} :Q7 cuts P (.region id ops true) fr H Q=AWP P (.region id (Zy ops ⟨⟩) true) fr H (Zy Q ⟨⟩):=by rfl
@[go_sem ↓] theorem ZgE {x y} :Q7 [] P (.seq x y) fr H Q=Q7 [] P x fr H (QX (fun fr H=>Q7 [] P y fr H Q) Q):=by
 grind [Q7]
def iR (b:Bool) (A B:Prop):Prop:=if b then A else B
def Lj (cuts:List Nat):Option Nat->Bool
 | some i=>cuts.contains i
 | none=>false
@[go_sem ↓] theorem Zdq {k x y} :Q7 (k::cuts) P (.seq x y) fr H Q=iR (Lj (k::cuts) (LH x)) (Zy (AWP P (.seq (Zy x ⟨⟩) (Zy y ⟨⟩)) fr H (Zy Q ⟨⟩)) ⟨⟩) (Zy (Q7 (k::cuts) P x fr H (QX (fun fr H=>Q7 (k::cuts) P y fr H Q) Q)) ⟨⟩):=by
 rfl
@[go_sem ↓, go_sem] theorem ZdV {A B:Prop} {t} :iR true (Zy A t) B=A:=by rfl
@[go_sem ↓, go_sem] theorem Zca {A B:Prop} {t} :iR false A (Zy B t)=B:=by rfl
theorem Om {b b' A B} (h:b=b'):iR b A B=iR b' A B:=by rw [h]
@[go_sem ↓] theorem wY {id ops d} :LH (.region id ops d)=some id:=ZP rfl rfl
@[go_sem ↓] theorem Zk0 {x y} :LH (.seq x y)=LH x:=ZP rfl rfl
@[go_sem ↓] theorem ZdA {id c} :LH (.block id c)=LH c:=ZP rfl rfl
@[go_sem ↓] theorem Zhd {c x y} :LH (.cond c x y)=none:=ZP rfl rfl
@[go_sem ↓] theorem Zhf {c} :LH (.loop c)=none:=ZP rfl rfl
@[go_sem] theorem wG : Lj cuts none=false:=ZP rfl rfl
@[go_sem] theorem Zdw {i} :Lj [] (some i)=false:=ZP rfl rfl
@[go_sem] theorem wF {k i} :Lj (k::cuts) (some i)=(decide (i=k)||Lj cuts (some i)):=by rfl
@[go_sem ↓] theorem Zdm {c x y} :Q7 cuts P (.cond c x y) fr H Q=VG (ev fr c) (Zy (Q7 cuts P x fr H Q) ⟨⟩) (Zy (Q7 cuts P y fr H Q) ⟨⟩):=ZP rfl rfl
@[go_sem ↓] theorem vJ {id c} :Q7 cuts P (.block id c) fr H Q=Q7 cuts P c fr H (Uj id Q):=ZP rfl rfl
@[go_sem ↓] theorem Zdn {id} :Q7 cuts P (.exit id) fr H Q=Q (.exit id) fr H:=ZP rfl rfl
@[go_sem ↓] theorem ZgD : Q7 cuts P .ret fr H Q=Q .ret fr H:=ZP rfl rfl
@[go_sem ↓] theorem Zdp {c} :Q7 cuts P (.loop c) fr H Q=AWP P (.loop (Zy c ⟨⟩)) fr H (Zy Q ⟨⟩):=ZP rfl rfl
@[go_sem ↓] theorem Zdo {c t} :Q7 cuts P (Zy c t) fr H Q=Q7 cuts P c fr H Q:=ZP rfl rfl
theorem Ru {c fr' H'} (h:fr=fr') (h2:H=H'):Q7 cuts P c fr H Q=Q7 cuts P c fr' H' Q:=by rw [h,h2]
theorem Rc {c fr' H'} (h:fr=fr') (h2:H=H'):AWP P c fr H Q=AWP P c fr' H' Q:=by rw [h,h2]
@[go_sem ↓] theorem qE {A:List V->List Obj->Prop} :QX A Q .normal fr H=A fr H:=ZP rfl rfl
@[go_sem ↓] theorem Zch {A:List V->List Obj->Prop} {id} :QX A Q (.exit id) fr H=Q (.exit id) fr H:=ZP rfl rfl
@[go_sem ↓] theorem ZeV {A:List V->List Obj->Prop} :QX A Q .ret fr H=Q .ret fr H:=ZP rfl rfl
@[go_sem ↓] theorem kA {id} :Uj id Q .normal fr H=Q .normal fr H:=ZP rfl rfl
@[go_sem ↓] theorem vP {id} :Uj id Q .ret fr H=Q .ret fr H:=ZP rfl rfl
@[go_sem ↓] theorem sM {id id'} :Uj id Q (.exit id') fr H=if id'=id then Q .normal fr H else Q (.exit id') fr H:=ZP rfl rfl
theorem MI {A:List V->List Obj->Prop} {e fr' H'} (h:fr=fr') (h2:H=H'):QX A Q e fr H=QX A Q e fr' H':=by rw [h,h2]
theorem Ht {id e fr' H'} (h:fr=fr') (h2:H=H'):Uj id Q e fr H=Uj id Q e fr' H':=by rw [h,h2]
@[go_sem ↓] theorem tN {rs} {Q:V->List Obj->Prop} :JN P rs Q .normal fr H=Ax ((Yz P fr H rs).map fun xs=>(Va xs,H)) (Zy Q ⟨⟩):=by
 simp only [JN,Zy];grind [Ax]
@[go_sem ↓] theorem ZiR {rs} {Q:V->List Obj->Prop} :JN P rs Q .ret fr H=Ax ((Yz P fr H rs).map fun xs=>(Va xs,H)) (Zy Q ⟨⟩):=by
 simp only [JN,Zy];grind [Ax]
theorem Og {rs e fr' H'} {Q:V->List Obj->Prop} (h:fr=fr') (h2:H=H'):JN P rs Q e fr H=JN P rs Q e fr' H':=by rw [h,h2]
@[go_sem] theorem Zb4 : Yz P fr H []=some []:=ZP rfl rfl
@[go_sem] theorem Zb5 {t l} :Yz P fr H (.tmp t::l)=(Yz P fr H l).map (gt fr t:: ·):=by
 simp only [Yz,SQ];cases Yz P fr H l<;>rfl
@[go_sem] theorem tL {a t l} :Yz P fr H (.cell a t::l)=(Qt P H t (gt fr a)).bind fun x=>(Yz P fr H l).map (x:: ·):=by
 simp only [Yz,SQ];cases Qt P H t (gt fr a)<;>cases Yz P fr H l<;>rfl
@[go_sem] theorem Zb6 {x} :Va [x]=x:=ZP rfl rfl
@[go_sem] theorem tM : Va []= .tup []:=ZP rfl rfl
@[go_sem] theorem Of {x y l} :Va (x::y::l)= .tup (x::y::l):=ZP rfl rfl
end code
attribute [congr] Om Ru Rc MI Ht Og
@[go_sem] theorem ZkZ {x:V} {l} :gt (x::l) 0=x:=ZP rfl rfl
@[go_sem] theorem ZkY {x:V} {l n} :gt (x::l) (n+1)=gt l n:=ZP rfl rfl
@[go_sem] theorem ZmQ {n} :gt [] n= .junk:=ZP rfl rfl
@[go_sem] theorem Zll {x v:V} {l} :pt (x::l) 0 v=v::l:=ZP rfl rfl
@[go_sem] theorem Zlk {x v:V} {l n} :pt (x::l) (n+1) v=x::pt l n v:=ZP rfl rfl
@[go_sem] theorem ZiO {fr d v} :Y7 fr (some d) v=pt fr d v:=ZP rfl rfl
@[go_sem] theorem ZiN {fr v} :Y7 fr none v=fr:=ZP rfl rfl
@[go_sem] theorem Ziu {x:Obj} {l} :oat (x::l) 0=x:=ZP rfl rfl
@[go_sem] theorem Zit {x:Obj} {l n} :oat (x::l) (n+1)=oat l n:=ZP rfl rfl
@[go_sem] theorem ZiE {x v:Obj} {l} :EI (x::l) 0 v=v::l:=ZP rfl rfl
@[go_sem] theorem ZiD {x v:Obj} {l n} :EI (x::l) (n+1) v=x::EI l n v:=ZP rfl rfl
@[go_sem] theorem ZkM {fr t} :evx fr (.tmp t)=gt fr t:=ZP rfl rfl
@[go_sem] theorem wR {fr g} :evx fr (.global g)=dC g:=ZP rfl rfl
@[go_sem] theorem ZmF {fr t} :ev fr (.tmp t)=gt fr t:=ZP rfl rfl
@[go_sem] theorem ZkJ {fr f} :ev fr (.func f)= .fn (.func f) [] []:=ZP rfl rfl
@[go_sem] theorem ZmD {fr k n} :ev fr (.const (.int k n))= .p (.int k n):=ZP rfl rfl
@[go_sem] theorem ZkI {fr b} :ev fr (.const (.bool b))= .p (.bool b):=ZP rfl rfl
@[go_sem] theorem ZmE {fr s} :ev fr (.const (.string s))= .p (.str s.data.toList):=ZP rfl rfl
@[go_sem] theorem ZkL {fr} :ev fr (.const (.slice none 0 0))= .p (.list true []):=ZP rfl rfl
@[go_sem] theorem ZkK {fr} :ev fr (.const (.pointer none))= .p .nilp:=ZP rfl rfl
@[go_sem] theorem ZmC {fr l} :ev fr (.const (.agg (List.toArray l)))=match wI l with | some xs=> .p (.agg xs) | none=> .junk:=ZP rfl rfl
@[go_sem] theorem Zg9 {fr d} {l:List (Option Nat)} :B7 fr (some d::l) 0=gt fr d:=by simp [B7]
@[go_sem] theorem Zg8 {fr o n} {l:List (Option Nat)} :B7 fr (o::l) (n+1)=B7 fr l n:=by simp [B7]
section ops
variable {P : Program} {fr : List V} {H : List Obj} {ds : List (Option Nat)} {K : List V -> List Obj -> Prop} {r : List Oper} {d : Option Nat} {t : TypeId} {ps : String} {af : Array Edge} {g : Option (Nat × Bool)} {k : V -> List Obj -> Prop}
theorem M7 {l fr' H'} (h:fr=fr') (h2:H=H'):YJ P ds l fr H K=YJ P ds l fr' H' K:=by rw [h,h2]
theorem IW {o fr' H'} (h:fr=fr') (h2:H=H'):Zt P o fr H k=Zt P o fr' H' k:=by rw [h,h2]
@[go_sem ↓] theorem Zgt : YJ P ds [] fr H K=K fr H:=ZP rfl rfl
@[go_sem] theorem Zc7 {op} :YJ P ds (⟨d,op,t,ps,af,none⟩::r) fr H K=Zt P ⟨d,op,t,ps,af,none⟩ fr H (Zy (fun x H'=>YJ P ds r (Y7 fr d x) H' K) ⟨⟩):=ZP rfl rfl
@[go_sem] theorem uN {op j b} :YJ P ds (⟨d,op,t,ps,af,some (j,b)⟩::r) fr H K=Xx (B7 fr ds j) b (Zy (Zt P ⟨d,op,t,ps,af,none⟩ fr H (Zy (fun x H'=>YJ P ds r (Y7 fr d x) H' K) ⟨⟩)) ⟨⟩) (Zy (YJ P ds r (Y7 fr d (.tup [])) H K) ⟨⟩):=by
 rfl
theorem XI {op:Op} (h:YE op=none) (h2:Ws P op fr H=none):Zt P ⟨d,op,t,ps,af,g⟩ fr H k=Di (Z8 P op fr H) fun x=>k x H:=by
 simp only [Zt,h,Hg,h2]
 all_goals (cases Z8 P op fr H<;>rfl)
theorem Rs {op:Op} (h:YE op=none) (h2:Z8 P op fr H=none):Zt P ⟨d,op,t,ps,af,g⟩ fr H k=Ax (Ws P op fr H) k:=by
 grind [Zt,Hg,Ax]
@[go_sem ↓] theorem vD {x} :Zt P ⟨d,.move x,t,ps,af,g⟩ fr H k=k (ev fr x) H:=by rfl
@[go_sem ↓] theorem lO {x} :Zt P ⟨d,.assign x,t,ps,af,g⟩ fr H k=k (ev fr x) H:=by rfl
def vif (b:Bool) (x y:V):V:=if b then x else y
@[go_sem] theorem ZjX {x y} :vif true x y=x:=ZP rfl rfl
@[go_sem] theorem ZeW {x y} :vif false x y=y:=ZP rfl rfl
@[go_sem] theorem ZjW {b x y} :vif b (.p (.bool x)) (.p (.bool y))= .p (.bool (if b then x else y)):=by cases b<;>rfl
@[go_sem] theorem Zgy {b} :uT (.p (.bool b))=some b:=ZP rfl rfl
@[go_sem ↓] theorem vF {c x y} :Zt P ⟨d,.pick c x y,t,ps,af,g⟩ fr H k=Di ((uT (ev fr c)).map fun b=>vif b (ev fr x) (ev fr y)) (Zy (fun v=>k v H) ⟨⟩):=by
 rw [XI rfl rfl];simp only [Z8,X3]
 cases uT (ev fr c)<;>rfl
@[go_sem ↓] theorem vC {u x} :Zt P ⟨d,.load u x,t,ps,af,g⟩ fr H k=Di (Qt P H u (ev fr x)) (Zy (fun v=>k v H) ⟨⟩):=by rw [XI rfl rfl];rfl
@[go_sem ↓] theorem aD {x} :Zt P ⟨d,.nilCheck x,t,ps,af,g⟩ fr H k=Di (if Y1 H (ev fr x)||dP (ev fr x) then some (ev fr x) else none) (Zy (fun v=>k v H) ⟨⟩):=by rw [XI rfl rfl];rfl
@[go_sem ↓] theorem Zdf {op u x y u2} :Zt P ⟨d,.binOp op u x y u2,t,ps,af,g⟩ fr H k=Di ((XX P op u (ev fr x) (ev fr y)).map .p) (Zy (fun v=>k v H) ⟨⟩):=by rw [XI rfl rfl];rfl
@[go_sem ↓] theorem ZgB {op u x} :Zt P ⟨d,.unOp op u x,t,ps,af,g⟩ fr H k=Di ((aun op (ev fr x)).map .p) (Zy (fun v=>k v H) ⟨⟩):=by rw [XI rfl rfl];rfl
def fJ (x y:Option PV):Option PV:=match x with | some z=>some z | none=>y
@[go_sem] theorem ZbM {z y} :fJ (some z) y=some z:=ZP rfl rfl
@[go_sem] theorem ZbL {y} :fJ none y=y:=ZP rfl rfl
@[go_sem ↓] theorem vB {s u x} :Zt P ⟨d,.convert s u x,t,ps,af,g⟩ fr H k=Di ((fJ (B9 P H s u (ev fr x)) (IL P s u (ev fr x))).map .p) (Zy (fun v=>k v H) ⟨⟩):=by
 rw [XI rfl rfl];simp only [Z8,X3]
 cases B9 P H s u (ev fr x)<;>rfl
@[go_sem ↓] theorem aC {f cs es} :Zt P ⟨d,.makeFunc f (List.toArray cs) (List.toArray es),t,ps,af,g⟩ fr H k=k (.fn f (cs.map (ev fr)) (es.map (ev fr))) H:=by rfl
@[go_sem ↓] theorem sJ {u x lo hi mx} :Zt P ⟨d,.slice u x lo hi mx,t,ps,af,g⟩ fr H k=Di (Vm P H u fr (ev fr x) lo hi mx) (Zy (fun v=>k v H) ⟨⟩):=by rw [XI rfl rfl];rfl
@[go_sem ↓] theorem Tw {s x f} :Zt P ⟨d,.fieldAddr s x f,t,ps,af,g⟩ fr H k=Di (Q2 P H s f (ev fr x)) (Zy (fun v=>k v H) ⟨⟩):=by rw [XI rfl rfl];rfl
@[go_sem ↓] theorem Tx {u x i} :Zt P ⟨d,.indexAddr u x i,t,ps,af,g⟩ fr H k=Di (U3 P H u (evx fr x) (ev fr i)) (Zy (fun v=>k v H) ⟨⟩):=by rw [XI rfl rfl];rfl
@[go_sem ↓] theorem sI {u x i} :Zt P ⟨d,.index u x i,t,ps,af,g⟩ fr H k=Di (IN P u (ev fr x) (ev fr i)) (Zy (fun v=>k v H) ⟨⟩):=by rw [XI rfl rfl];rfl
def axt (x:V) (i:Nat):Option V:=match x with | .tup vs=>vs[i]? | _=>none
@[go_sem] theorem Zkr {vs i} :axt (.tup vs) i=vs[i]? :=ZP rfl rfl
@[go_sem ↓] theorem jY {x i} :Zt P ⟨d,.extract x i,t,ps,af,g⟩ fr H k=Di (axt (ev fr x) i) (Zy (fun v=>k v H) ⟨⟩):=by
 rw [XI rfl rfl]
 rfl
@[go_sem ↓] theorem sH {u l} :Zt P ⟨d,.build u (List.toArray l),t,ps,af,g⟩ fr H k=Di (DP P H u (l.map fun x=>(x.1,ev fr x.2))) (Zy (fun v=>k v H) ⟨⟩):=by rw [XI rfl rfl];rfl
@[go_sem ↓] theorem Zdh {x u} :Zt P ⟨d,.call ⟨.builtin .len,#[x],#[u]⟩,t,ps,af,g⟩ fr H k=Di ((TY P H u (ev fr x)).map .p) (Zy (fun v=>k v H) ⟨⟩):=by rw [XI rfl rfl];rfl
@[go_sem ↓] theorem Zdi {x y us} :Zt P ⟨d,.call ⟨.builtin .max,#[x,y],us⟩,t,ps,af,g⟩ fr H k=Di ((M4 false [ev fr x,ev fr y]).map .p) (Zy (fun v=>k v H) ⟨⟩):=by
 rw [XI rfl rfl];rfl
@[go_sem ↓] theorem sG {u} :Zt P ⟨d,.alloc u,t,ps,af,g⟩ fr H k=Ax ((Xi P u).map fun zs=>(.ptr H.length 0,H++ [.cells (zs.map .p)])) (Zy k ⟨⟩):=by rfl
@[go_sem ↓] theorem Zdg {u x} :Zt P ⟨d,.box u x,t,ps,af,g⟩ fr H k=Ax ((vc H (ev fr x)).map fun cs=>(.ptr H.length 0,H++ [.cells cs])) (Zy k ⟨⟩):=by rfl
def vH (H:List Obj) (n:Option Nat) (a:V) (cs:Option (List V)):Option (List Obj):=n.bind fun n=>cs.bind fun cs=>AC H n a cs
@[go_sem] theorem Zdk {n a cs} :vH H (some n) a (some cs)=AC H n a cs:=ZP rfl rfl
@[go_sem ↓] theorem sK {u x y} :Zt P ⟨d,.store u x y,t,ps,af,g⟩ fr H k=hst (vH H (YC P u) (ev fr x) (vc H (ev fr y))) (Zy (k .junk) ⟨⟩):=by
 rw [Rs rfl rfl];simp only [Ws,vH]
 cases YC P u<;>cases vc H (ev fr y)<;>simp [hst,Ax,Zy]
 grind
@[go_sem ↓] theorem Rr {u n l} :Zt P ⟨d,.buildSlice u n (List.toArray l),t,ps,af,g⟩ fr H k=Ax (Ws P (.buildSlice u n (List.toArray l)) fr H) (Zy k ⟨⟩):=by rfl
@[go_sem ↓] theorem jZ {u} :Zt P ⟨d,.makeMap u none,t,ps,af,g⟩ fr H k=k (.mp H.length) (H++ [.map []]):=by rfl
@[go_sem ↓] theorem lP {u x y ok} :Zt P ⟨d,.lookup u x y ok,t,ps,af,g⟩ fr H k=Ax (AZ P H u (ev fr x) (ev fr y) ok) (Zy k ⟨⟩):=by rfl
@[go_sem ↓] theorem vE {u x y z} :Zt P ⟨d,.mapUpdate u x y z,t,ps,af,g⟩ fr H k=Ax (CR P H u (ev fr x) (ev fr y) (ev fr z)) (Zy k ⟨⟩):=by rfl
@[go_sem ↓] theorem Ty {u x y} :Zt P ⟨d,.makeSlice u x y,t,ps,af,g⟩ fr H k=Ax (Ws P (.makeSlice u x y) fr H) (Zy k ⟨⟩):=by rfl
@[go_sem ↓] theorem lN {x y u u2} :Zt P ⟨d,.call ⟨.builtin .append,#[x,y],#[u,u2]⟩,t,ps,af,g⟩ fr H k=Ax (Ve P H u u2 (ev fr x) (ev fr y)) (Zy k ⟨⟩):=by rfl
@[go_sem ↓] theorem vA {f azs ts} :Zt P ⟨d,.call ⟨.value f,List.toArray azs,ts⟩,t,ps,af,g⟩ fr H k=Aq P (ev fr f) (azs.map (ev fr)) H (Zy k ⟨⟩):=ZP rfl rfl
@[go_sem ↓] theorem Zgi {f fs cs azs} :Aq P (.fn (.func f) fs cs) azs H k=ACalls P f (fs++azs++cs) H k:=ZP rfl rfl
@[go_sem ↓] theorem ZcH {f azs} :Aq P (.p (.fn f)) azs H k=ACalls P f azs H k:=ZP rfl rfl
theorem IJ {f f' azs as'} (h:f=f') (h2:azs=as'):Aq P f azs H k=Aq P f' as' H k:=by rw [h,h2]
theorem G6 {f azs as' H'} (h2:azs=as') (h3:H=H'):ACalls P f azs H k=ACalls P f as' H' k:=by rw [h2,h3]
theorem IK {x x' A B} (h:x=x'):VG x A B=VG x' A B:=by rw [h]
theorem Hb {x x' b A B} (h:x=x'):Xx x b A B=Xx x' b A B:=by rw [h]
@[go_sem ↓, go_sem] theorem uB {A:Prop} {t B'} :VG (.p (.bool true)) (Zy A t) B'=A:=by simp [VG,Zy]
@[go_sem ↓, go_sem] theorem rU {B:Prop} {t B'} :VG (.p (.bool false)) B' (Zy B t)=B:=by simp [VG,Zy]
@[go_sem ↓, go_sem] theorem ZcT {A:Prop} {t B} :Xx (.p (.bool true)) true (Zy A t) B=A:=by simp [Xx,Zy]
@[go_sem ↓, go_sem] theorem ZcS {B:Prop} {t A} :Xx (.p (.bool true)) false A (Zy B t)=B:=by simp [Xx,Zy]
@[go_sem ↓, go_sem] theorem ZcR {B:Prop} {t A} :Xx (.p (.bool false)) true A (Zy B t)=B:=by simp [Xx,Zy]
@[go_sem ↓, go_sem] theorem ZcQ {A:Prop} {t B} :Xx (.p (.bool false)) false (Zy A t) B=A:=by simp [Xx,Zy]
@[go_sem ↓, go_sem] theorem rW {b} {B:Prop} {t A} :Xx (.tup []) b A (Zy B t)=B:=by rfl
theorem Q1 {c:Bool} {A B:Prop} {t t'} (h1:c=true->A) (h2:c=false->B):VG (.p (.bool c)) (Zy A t) (Zy B t'):=⟨h1,h2⟩
theorem VH {c:Bool} {A B:Prop} {t t'} (h1:c=true->A) (h2:c=false->B):Xx (.p (.bool c)) true (Zy A t) (Zy B t'):=⟨h1,fun h=>h2 (by simpa using h)⟩
theorem Uf {c:Bool} {A B:Prop} {t t'} (h1:c=true->B) (h2:c=false->A):Xx (.p (.bool c)) false (Zy A t) (Zy B t'):=⟨h2,fun h=>h1 (by simpa using h)⟩
theorem X8 {P Q:Prop} (h:Q) (e:Q->P:=by intro h;simp (disch:=omega) only [go_sem,seval];exact h):P:=e h
class Dc (c:Bool) (p q:outParam Prop):Prop where
 t:c=true->p
 f:c=false->q
instance dcD {p : Prop} [Decidable p] : Dc (decide p) p (¬p) := ⟨Jo, of_decide_eq_false⟩
instance (priority := low) dcB {c : Bool} : Dc c (c = true) (c = false) := ⟨id, id⟩
theorem cD {c:Bool} {A B p q:Prop} {t t'} [d:Dc c p q] (h1:p->A) (h2:q->B):VG (.p (.bool c)) (Zy A t) (Zy B t'):=Q1 (fun h=>h1 (d.t h)) (fun h=>h2 (d.f h))
theorem gT {c:Bool} {A B p q:Prop} {t t'} [d:Dc c p q] (h1:p->A) (h2:q->B):Xx (.p (.bool c)) true (Zy A t) (Zy B t'):=VH (fun h=>h1 (d.t h)) (fun h=>h2 (d.f h))
theorem gF {c:Bool} {A B p q:Prop} {t t'} [d:Dc c p q] (h1:p->B) (h2:q->A):Xx (.p (.bool c)) false (Zy A t) (Zy B t'):=Uf (fun h=>h1 (d.t h)) (fun h=>h2 (d.f h))
@[go_sem] theorem Zlg {p:Prop} [Decidable p]:(!decide p)=decide (¬p):=Zb
end ops
attribute [congr] M7 IW IJ G6 IK Hb
section vals
variable {P : Program} {H : List Obj} {k : IntKind} {t u : TypeId}
@[go_sem] theorem Zf6 {a b} :XX P .add t (.p (.int k a)) (.p (.int k b))=some (.int k (k.wrap (a+b))):=by simp [XX,Qb]
@[go_sem] theorem Zgh {a b} :XX P .sub t (.p (.int k a)) (.p (.int k b))=some (.int k (k.wrap (a-b))):=by simp [XX,Qb]
@[go_sem] theorem TM {a b} :XX P .mul t (.p (.int k a)) (.p (.int k b))=some (.int k (k.wrap (a*b))):=by simp [XX,Qb]
@[go_sem] theorem TO {a b} (h:b≠0):XX P .quo t (.p (.int k a)) (.p (.int k b))=some (.int k (k.wrap (a.tdiv b))):=by simp [XX,Qb,h]
@[go_sem] theorem Zgf {a b} (h:b≠0):XX P .rem t (.p (.int k a)) (.p (.int k b))=some (.int k (a.tmod b)):=by simp [XX,Qb,h]
@[go_sem] theorem IG {a b} :XX P .and t (.p (.int k a)) (.p (.int k b))=some (.int k (k.wrap ((BitVec.ofInt k.bits a&&&BitVec.ofInt k.bits b).toNat:Int))):=by simp [XX,Qb]
@[go_sem] theorem OG {a b} :XX P .or t (.p (.int k a)) (.p (.int k b))=some (.int k (k.wrap ((BitVec.ofInt k.bits a|||BitVec.ofInt k.bits b).toNat:Int))):=by simp [XX,Qb]
@[go_sem] theorem II {a b} :XX P .andNot t (.p (.int k a)) (.p (.int k b))=some (.int k (k.wrap ((BitVec.ofInt k.bits a&&& ~~~(BitVec.ofInt k.bits b)).toNat:Int))):=by simp [XX,Qb]
@[go_sem] theorem Zf9 {a b} :XX P .eql t (.p (.int k a)) (.p (.int k b))=some (.bool (decide (a=b))):=by simp [XX,Qb]
@[go_sem] theorem Zge {a b} :XX P .neq t (.p (.int k a)) (.p (.int k b))=some (.bool (decide (¬a=b))):=by simp [XX,Qb]
@[go_sem] theorem Zgd {a b} :XX P .lss t (.p (.int k a)) (.p (.int k b))=some (.bool (decide (a<b))):=by simp [XX,Qb]
@[go_sem] theorem Zgc {a b} :XX P .leq t (.p (.int k a)) (.p (.int k b))=some (.bool (decide (a<=b))):=by simp [XX,Qb]
@[go_sem] theorem Zgb {a b} :XX P .gtr t (.p (.int k a)) (.p (.int k b))=some (.bool (decide (b<a))):=by simp [XX,Qb]
@[go_sem] theorem Zga {a b} :XX P .geq t (.p (.int k a)) (.p (.int k b))=some (.bool (decide (b<=a))):=by simp [XX,Qb]
@[go_sem] theorem TP {a b k'} (h:0<=b):XX P .shl t (.p (.int k a)) (.p (.int k' b))=some (.int k (k.wrap (a*2^(min b.toNat k.bits)))):=by grind [XX,Qb]
@[go_sem] theorem TQ {a b k'} (h:0<=b):XX P .shr t (.p (.int k a)) (.p (.int k' b))=some (.int k (a.fdiv (2^(min b.toNat k.bits)))):=by grind [XX,Qb]
@[go_sem] theorem Zgg {op a b} :XX P op t (.p (.str a)) (.p (.str b))=Im op a b:=ZP rfl rfl
@[go_sem] theorem ZiU {a b} :Im .eql a b=some (.bool (decide (a=b))):=ZP rfl rfl
@[go_sem] theorem ZiV {a b} :Im .neq a b=some (.bool (decide (¬a=b))):=by simp [Im]
@[go_sem] theorem iP {a b} (h:a.length+b.length<=9223372036854775807):Im .add a b=some (.str (a++b)):=by simp [Im,h]
def vN (op:BinOp) (u:Option TypeDesc) (a b:Bool):Option PV:=match op,u with
  | .eql,some .bool=>some (.bool (a==b))
  | .neq,some .bool=>some (.bool (!(a==b)))
  | _,_=>none
end vals
attribute [irreducible] Di Ax hst bst
end Go.AM
namespace Go.AM
open Go.RowKit
section vals
variable {P : Program} {H : List Obj} {k : IntKind} {t u : TypeId}
@[go_sem] theorem ZcC {op a b} :XX P op t (.p (.bool a)) (.p (.bool b))=vN op (P.underlying t) a b:=ZP rfl rfl
@[go_sem] theorem ZgF {a b} :vN .eql (some .bool) a b=some (.bool (a==b)):=ZP rfl rfl
@[go_sem] theorem ZgG {a b} :vN .neq (some .bool) a b=some (.bool (!(a==b))):=ZP rfl rfl
def wU (g:Bool) (op:BinOp) (r:Option Bool):Option PV:=if g then none else match op with
 | .eql=>r.map .bool
 | .neq=>r.map fun r=> .bool (!r)
 | _=>none
@[go_sem] theorem Zf7 {op a b} :XX P op t (.p (.agg a)) (.p (.agg b))=wU (P.eqGuardType P.depth t) op (Wr P 9 t (.agg a) (.agg b)):=ZP rfl rfl
@[go_sem] theorem Zha {b} :wU false .eql (some b)=some (.bool b):=ZP rfl rfl
@[go_sem] theorem Zhb {b} :wU false .neq (some b)=some (.bool (!b)):=ZP rfl rfl
def Cb (P:Program) (d:Nat) (t:TypeId) (D:Option TypeDesc) (x y:PV):Option Bool:=match D,x,y with
  | some .bool,.bool a,.bool b=>some (a==b)
  | some (.int _),.int k a,.int k' b=>if k=k' then some (decide (a=b)) else none
  | some .string,.str a,.str b=>some (decide (a=b))
  | some (.struct fs),.agg a,.agg b=>if P.stoodInHeld t then none else AW (Wr P d) P fs.toList a b
  | some (.array n e),.agg a,.agg b=>match YC P e with | some m=>Ca (Wr P d e) P e m n 0 a b | none=>none
  | _,_,_=>none
@[go_sem] theorem ZcN {d x y} :Wr P (d+1) t x y=Cb P d t (P.underlying t) x y:=ZP rfl rfl
@[go_sem] theorem ZcM {d a b} :Cb P d t (some .bool) (.bool a) (.bool b)=some (a==b):=ZP rfl rfl
@[go_sem] theorem Zgk {d k0 a b} :Cb P d t (some (.int k0)) (.int k a) (.int k b)=some (decide (a=b)):=by simp [Cb]
theorem UJ {d fs a b} (h:P.stoodInHeld t=false):Cb P d t (some (.struct fs)) (.agg a) (.agg b)=AW (Wr P d) P fs.toList a b:=by simp [Cb,h]
theorem M1 {d n e m a b} (h:YC P e=some m):Cb P d t (some (.array n e)) (.agg a) (.agg b)=Ca (Wr P d e) P e m n 0 a b:=by simp [Cb,h]
def An (x y:Option Bool):Option Bool:=x.bind fun p=>y.map fun q=>p&&q
@[go_sem] theorem ZdQ {p q} :An (some p) (some q)=some (p&&q):=ZP rfl rfl
def MU (f:PV->PV->Option Bool) (x y:Option PV):Option Bool:=x.bind fun x=>y.bind fun y=>f x y
@[go_sem] theorem Zg1 {f x y} :MU f (some x) (some y)=f x y:=ZP rfl rfl
@[go_sem] theorem AX {f a b} :AW f P [] a b=some true:=ZP rfl rfl
@[go_sem] theorem KC {f fi r a b} : AW f P (fi :: r) a b = if fi.name = "_" then AW f P r a b else An (MU (f fi.type) (apart P fi.type a fi.offset) (apart P fi.type b fi.offset)) (AW f P r a b) := by
 simp only [AW]
 split
 ·rfl
 ·cases apart P fi.type a fi.offset<;>cases apart P fi.type b fi.offset<;>simp [MU,An]
  rename_i x y
  cases f fi.type x y<;>cases AW f P r a b<;>rfl
@[go_sem] theorem ZcL {f e n i a b} :Ca f P e n 0 i a b=some true:=ZP rfl rfl
@[go_sem] theorem ZcK {f e n i m a b} :Ca f P e n (m+1) i a b=An (MU f (apart P e a (i*n)) (apart P e b (i*n))) (Ca f P e n m (i+1) a b):=by
 simp only [Ca]
 cases apart P e a (i*n)<;>cases apart P e b (i*n)<;>simp [MU,An]
 rename_i x y
 cases f x y<;>cases Ca f P e n m (i+1) a b<;>rfl
def Zgv (g:Option Bool) (s:Option Nat) (cs:List PV) (off:Nat):Option PV:=match g,s with
 | some true,some n=>if off+n<=cs.length then some (.agg ((cs.drop off).take n)) else none
 | some false,_=>cs[off]?
 | _,_=>none
@[go_sem] theorem Zgu {cs off} :apart P t cs off=Zgv (XH P t) (YC P t) cs off:=ZP rfl rfl
@[go_sem] theorem Zgw {s cs off} :Zgv (some false) s cs off=cs[off]? :=ZP rfl rfl
def M3 (g:Option Bool) (s:Option Nat) (H:List Obj) (x:V):Option V:=match g,s with
 | some true,some n=>(VS H x n).map mkA
 | some false,_=>match VS H x 1 with
  | some (c::_)=>some c
  | _=>none
 | _,_=>none
def hdO (x:Option (List V)):Option V:=match x with | some (c::_)=>some c | _=>none
@[go_sem] theorem Zhc {c l} :hdO (some (c::l))=some c:=ZP rfl rfl
@[go_sem] theorem Zgp {x} :Qt P H t x=M3 (XH P t) (YC P t) H x:=ZP rfl rfl
@[go_sem] theorem uM {s x} :M3 (some false) s H x=hdO (VS H x 1):=by rfl
@[go_sem] theorem uL {n x} :M3 (some true) (some n) H x=(VS H x n).map mkA:=ZP rfl rfl
@[go_sem] theorem ZcJ {x j n} :VS H (.lp x j) n=if j+n<=x.cells.length then some (((x.cells.drop j).take n).map .p) else none:=ZP rfl rfl
def gM (ob:Obj) (off n:Nat):Option (List V):=match ob with | .cells cs=>if off+n<=cs.length then some ((cs.drop off).take n) else none | _=>none
@[go_sem] theorem uA {o off n} :VS H (.ptr o off) n=gM (oat H o) off n:=ZP rfl rfl
@[go_sem] theorem oY {cs off n} :gM (.cells cs) off n=if off+n<=cs.length then some ((cs.drop off).take n) else none:=ZP rfl rfl
def bR (ob:Obj) (i j tot n:Nat):Option (List V):=match ob with
 | .elems _ xs=>if xs.length=tot/\i<xs.length/\j+n<=(U6 xs i).cells.length then some ((((U6 xs i).cells.drop j).take n).map .p) else none
 | _=>none
@[go_sem] theorem ZcI {o i j tot n} :VS H (.ep o i j tot) n=bR (oat H o) i j tot n:=ZP rfl rfl
@[go_sem] theorem mV {S xs i j tot n} :bR (.elems S xs) i j tot n=if xs.length=tot/\i<xs.length/\j+n<=(U6 xs i).cells.length then some ((((U6 xs i).cells.drop j).take n).map .p) else none:=ZP rfl rfl
@[go_sem] theorem Zds {cs} :(PV.agg cs).cells=cs:=ZP rfl rfl
@[go_sem] theorem Zdu {n} :(PV.int k n).cells= [.int k n]:=ZP rfl rfl
@[go_sem] theorem vX {b} :(PV.bool b).cells= [.bool b]:=ZP rfl rfl
@[go_sem] theorem Zdv {s} :(PV.str s).cells= [.str s]:=ZP rfl rfl
@[go_sem] theorem vY {c xs} :(PV.list c xs).cells= [.list c xs]:=ZP rfl rfl
@[go_sem] theorem Zli {n} :(PV.int k n).one=true:=ZP rfl rfl
@[go_sem] theorem ZiB {b} :(PV.bool b).one=true:=ZP rfl rfl
@[go_sem] theorem Zlj {s} :(PV.str s).one=true:=ZP rfl rfl
@[go_sem] theorem ZiC {c xs} :(PV.list c xs).one=true:=ZP rfl rfl
@[go_sem] theorem Zm2 {cs} :mkA cs=match Qr cs with | some ps=> .p (.agg ps) | none=> .agg cs:=ZP rfl rfl
@[go_sem] theorem Zgo : Qr []=some []:=ZP rfl rfl
@[go_sem] theorem ZcZ {x r} :Qr (.p x::r)=(Qr r).map (x:: ·):=by rfl
def Dk (n:Option Nat) (a:Bool) (x:V):Option V:=match n with | some n=>if a then some (A0 n x) else none | none=>none
@[go_sem] theorem ZcO {s f x} :Q2 P H s f x=Dk (ZJ P s f) (Y1 H x) x:=ZP rfl rfl
@[go_sem] theorem kN {n x} :Dk (some n) true x=some (A0 n x):=ZP rfl rfl
@[go_sem] theorem Zgs {n x j} :A0 n (.lp x j)= .lp x (j+n):=ZP rfl rfl
@[go_sem] theorem Zc4 {n o off} :A0 n (.ptr o off)= .ptr o (off+n):=ZP rfl rfl
@[go_sem] theorem Zgr {n o i j tot} :A0 n (.ep o i j tot)= .ep o i (j+n) tot:=ZP rfl rfl
def Pl (ob:Obj):Bool:=match ob with | .cells _=>true | _=>false
@[go_sem] theorem kC {cs} :Pl (.cells cs)=true:=ZP rfl rfl
def Pm (ob:Obj) (tot:Nat):Bool:=match ob with | .elems _ xs=>decide (xs.length=tot) | _=>false
@[go_sem] theorem kD {S xs tot} :Pm (.elems S xs) tot=decide (xs.length=tot):=ZP rfl rfl
def dR (ob:Obj) (tot:Nat):Bool:=match ob with | .elems _ xs=>decide (xs.length=tot) | .cells _=>true | _=>false
@[go_sem] theorem tB {S xs tot} :dR (.elems S xs) tot=decide (xs.length=tot):=ZP rfl rfl
@[go_sem] theorem tA {cs tot} :dR (.cells cs) tot=true:=ZP rfl rfl
@[go_sem] theorem Zgn {x j} :Y1 H (.lp x j)=true:=ZP rfl rfl
@[go_sem] theorem uJ {o off} :Y1 H (.ptr o off)=Pl (oat H o):=ZP rfl rfl
@[go_sem] theorem Zgm {o i j tot} :Y1 H (.ep o i j tot)=Pm (oat H o) tot:=ZP rfl rfl
def V5 (e:Option (Option Nat×Nat)) (H:List Obj) (x i:V):Option V:=match e,i with
 | some (none,S),.p (.int _ n)=>match x with
  | .p (.list _ xs)=>if 0<=n/\n<xs.length then (if (U6 xs n.toNat).cells.length=S then some (.lp (U6 xs n.toNat) 0) else none) else none
  | .sl o off len tot=>match oat H o with
   | .elems S' xs=>if xs.length=tot/\S'=S then (if 0<=n/\n<len then some (.ep o (off+n.toNat) 0 tot) else none) else none
   | .cells _=>if S=1/\off=0/\len=tot/\0<=n/\n<len then some (.ptr o n.toNat) else none
   | _=>none
  | _=>none
 | some (some k,S),.p (.int _ n)=>if 0<=n/\n<k then (if Y1 H x then some (A0 (n.toNat*S) x) else none) else none
 | _,_=>none
@[go_sem] theorem ZcV {x i} :U3 P H t x i=V5 (YZ P t) H x i:=ZP rfl rfl
theorem Q3 {S c xs n} (h0:0<=n) (h1:n<(List.length xs:Int)):V5 (some (none,S)) H (.p (.list c xs)) (.p (.int k n))=if (U6 xs n.toNat).cells.length=S then some (.lp (U6 xs n.toNat) 0) else none:=by
 simp_all [V5]
def nth {α:Type} [Inhabited α] (l:List α) (i:Nat):α:=l.getD i default
theorem WK {α:Type} [Inhabited α] {f:α->PV} {l:List α} {i:Nat} (h:i<l.length):U6 (l.map f) i=f (nth l i):=by
 simp [U6,nth,h]
theorem Zj {α:Type} [Inhabited α] {l:List α} {i:Nat} (h:i<l.length):nth l i=l[i]:=by simp [nth,h]
@[go_sem] theorem rY {α:Type} [Inhabited α] {f:α->PV} {l:List α} {S c n} (h0:0<=n) (h1:n<(l.length:Int)) :
  V5 (some (none,S)) H (.p (.list c (l.map f))) (.p (.int k n))=if (f (nth l n.toNat)).cells.length=S then some (.lp (f (nth l n.toNat)) 0) else none:=by
 grind [Q3,WK]
def E5 (ob:Obj) (S o off len tot:Nat) (n:Int):Option V:=match ob with
 | .elems S' xs=>if xs.length=tot/\S'=S then (if 0<=n/\n<len then some (.ep o (off+n.toNat) 0 tot) else none) else none
 | .cells _=>if S=1/\off=0/\len=tot/\0<=n/\n<len then some (.ptr o n.toNat) else none
 | _=>none
@[go_sem] theorem uF {S o off len tot n} :V5 (some (none,S)) H (.sl o off len tot) (.p (.int k n))=E5 (oat H o) S o off len tot n:=ZP rfl rfl
@[go_sem] theorem ZdX {S xs o off} {len tot:Nat} {n:Int} (h0:0<=n) (h1:n<(len:Int)) (ht:xs.length=tot):E5 (.elems S xs) S o off len tot n=some (.ep o (off+n.toNat) 0 tot):=by
 grind [E5]
@[go_sem] theorem pU {cs o} {len:Nat} {n:Int} (h0:0<=n) (h1:n<(len:Int)):E5 (.cells cs) 1 o 0 len len n=some (.ptr o n.toNat):=by
 grind [E5]
@[go_sem] theorem rX {n} {m S:Nat} {x} (h0:0<=n) (h1:n<(m:Int)):V5 (some (some m,S)) H x (.p (.int k n))=Dk (some (n.toNat*S)) (Y1 H x) x:=by
 simp_all [V5,Dk]
def OH (H:List Obj) (D:Option TypeDesc) (x:V):Option PV:=match D,x with
 | some (.slice _),.p (.list _ xs)=>some (.int .i64 xs.length)
 | some (.slice _),.sl o _ len tot=>match oat H o with
  | .elems _ xs=>if xs.length=tot then some (.int .i64 len) else none
  | _=>none
 | some .string,.p (.str s)=>some (.int .i64 s.length)
 | some (.array n _),_=>some (.int .i64 n)
 | _,_=>none
@[go_sem] theorem Zkk {x} :TY P H t x=OH H (P.underlying t) x:=ZP rfl rfl
@[go_sem] theorem uG {e c xs} :OH H (some (.slice e)) (.p (.list c xs))=some (.int .i64 (List.length xs)):=ZP rfl rfl
def ZiY (ob:Obj) (len tot:Nat):Option PV:=match ob with | .elems _ xs=>if xs.length=tot then some (.int .i64 len) else none | _=>none
@[go_sem] theorem Zgl {e o off len tot} :OH H (some (.slice e)) (.sl o off len tot)=ZiY (oat H o) len tot:=ZP rfl rfl
@[go_sem] theorem Zcc {S xs len tot} :ZiY (.elems S xs) len tot=if xs.length=tot then some (.int .i64 len) else none:=ZP rfl rfl
@[go_sem] theorem ZcY {s} :OH H (some .string) (.p (.str s))=some (.int .i64 (List.length s)):=ZP rfl rfl
@[go_sem] theorem Zkq {b} :aun .not (.p (.bool b))=some (.bool (!b)):=ZP rfl rfl
@[go_sem] theorem Zkp {n} :aun .neg (.p (.int k n))=some (.int k (k.wrap (0-n))):=ZP rfl rfl
def TS (D E:Option TypeDesc) (x:V):Option PV:=match D,E,x with
 | some _,some (.int k),.p (.int _ n)=>some (.int k (k.wrap n))
 | some (.int _),some .string,.p (.int _ n)=>if 0<=n/\n<128 then some (.str [UInt8.ofNat n.toNat]) else none
 | some .string,some .string,.p (.str b)=>some (.str b)
 | _,_,_=>none
@[go_sem] theorem Zgj {s x} :IL P s t x=TS (P.underlying s) (P.underlying t) x:=ZP rfl rfl
@[go_sem] theorem uC {D k' n} :TS (some D) (some (.int k)) (.p (.int k' n))=some (.int k (k.wrap n)):=by rfl
def Ha (E:Option TypeDesc) (H:List Obj) (x:V):Option PV:=match E,x with
  | some (.int .u8),.p (.list _ xs)=>(YM xs).map .str
  | some (.int .u8),.sl o off len tot=>match oat H o with
   | .elems _ xs=>if xs.length=tot/\off+len<=tot then (YM ((xs.take (off+len)).drop off)).map .str else none
   | _=>none
  | _,_=>none
def G9 (P:Program) (H:List Obj) (D E:Option TypeDesc) (x:V):Option PV:=match D,E with
 | some (.slice e),some .string=>Ha (P.underlying e) H x
 | _,_=>none
@[go_sem] theorem ZcG {s x} :B9 P H s t x=G9 P H (P.underlying s) (P.underlying t) x:=ZP rfl rfl
@[go_sem] theorem rT {E x} :G9 P H (some (.int k)) E x=none:=ZP rfl rfl
@[go_sem] theorem jV {e x} :G9 P H (some (.slice e)) (some .string) x=Ha (P.underlying e) H x:=ZP rfl rfl
def iQ (ob:Obj) (off len tot:Nat):Option PV:=match ob with | .elems _ xs=>if xs.length=tot/\off+len<=tot then (YM ((xs.take (off+len)).drop off)).map .str else none | _=>none
@[go_sem] theorem tZ {o off len tot} :Ha (some (.int .u8)) H (.sl o off len tot)=iQ (oat H o) off len tot:=ZP rfl rfl
@[go_sem] theorem pP {S xs off len tot} :iQ (.elems S xs) off len tot=if xs.length=tot/\off+len<=tot then (YM ((xs.take (off+len)).drop off)).map .str else none:=ZP rfl rfl
@[go_sem] theorem sN : YM []=some []:=ZP rfl rfl
@[go_sem] theorem lZ {n r} :YM (.int .u8 n::r)=(YM r).map (UInt8.ofNat n.toNat:: ·):=by rfl
@[go_sem] theorem ZlJ {a b:Int} (h:0<=a):a.tdiv b=a / b:=Int.tdiv_eq_ediv_of_nonneg h
@[go_sem] theorem ZlX {a b:Int} (h:0<=a):a.tmod b=a%b:=Int.tmod_eq_emod_of_nonneg h
@[go_sem] theorem Zoz {cs} :vc H (.p (.agg cs))=if cs.all (·.one)=true then some (cs.map .p) else none:=by rfl
@[go_sem] theorem ZlY {cs} :vc H (.agg cs)=if cs.all (V.one H)=true then some cs else none:=by rfl
@[go_sem] theorem ZoA {n} :vc H (.p (.int k n))=some [.p (.int k n)]:=ZP rfl rfl
@[go_sem] theorem ZlZ {n} :vc H (.p (.bool n))=some [.p (.bool n)]:=ZP rfl rfl
@[go_sem] theorem ZoB {n} :vc H (.p (.str n))=some [.p (.str n)]:=ZP rfl rfl
@[go_sem] theorem Zl0 {c xs} :vc H (.p (.list c xs))=some [.p (.list c xs)]:=ZP rfl rfl
@[go_sem] theorem ZpL {o off len tot} :vc H (.sl o off len tot)=if dR (oat H o) tot=true then some [.sl o off len tot] else none:=ZP rfl rfl
@[go_sem] theorem ZoC {x} :V.one H (.p x)=x.one:=ZP rfl rfl
@[go_sem] theorem Zl2 {o} :V.one H (.mp o)=Pn (oat H o):=ZP rfl rfl
@[go_sem] theorem ZpK {o} :vc H (.mp o)=if Pn (oat H o)=true then some [.mp o] else none:=ZP rfl rfl
@[go_sem] theorem ZdF {es} :Pn (.map es)=true:=ZP rfl rfl
@[go_sem] theorem Zlp {α:Type} {n} {cs:List α} :JP ([]:List α) n cs= []:=by rfl
@[go_sem] theorem Zi0 {α:Type} {x c:α} {l cs} :JP (x::l) 0 (c::cs)=c::JP l 0 cs:=by simp [JP]
@[go_sem] theorem ZdY {α:Type} {x:α} {l} :JP (x::l) 0 []=x::l:=by simp [JP]
@[go_sem] theorem ZiZ {α:Type} {x:α} {l cs n} :JP (x::l) (n+1) cs=x::JP l n cs:=by simp [JP]
def gW (H:List Obj) (o:Nat) (ob:Obj) (off n:Nat) (cs:List V):Option (List Obj):=match ob with
 | .cells old=>if off+n<=old.length then some (EI H o (.cells (JP old off cs))) else none
 | _=>none
@[go_sem] theorem vG {n o off cs} :AC H n (.ptr o off) cs=if cs.length=n then gW H o (oat H o) off n cs else none:=ZP rfl rfl
@[go_sem] theorem pE {o old off n cs} :gW H o (.cells old) off n cs=if off+n<=old.length then some (EI H o (.cells (JP old off cs))) else none:=ZP rfl rfl
def Nu (H:List Obj) (o:Nat) (ob:Obj) (i j tot n:Nat) (ps:Option (List PV)):Option (List Obj):=match ob,ps with
 | .elems S xs,some ps=>if xs.length=tot/\i<xs.length/\j+n<=(U6 xs i).cells.length/\ps.all (·.one)=true/\(U6 xs i).cells.all (·.one)=true then
   some (EI H o (.elems S (xs.set i (kE (U6 xs i) (JP (U6 xs i).cells j ps))))) else none
 | _,_=>none
@[go_sem] theorem Zdj {n o i j tot cs} :AC H n (.ep o i j tot) cs=if cs.length=n then Nu H o (oat H o) i j tot n (Qr cs) else none:=ZP rfl rfl
@[go_sem] theorem wQ {α:Type} [Inhabited α] {f:α->PV} {l:List α} {o S i j tot n ps} (ht:l.length=tot) (hi:i<l.length):Nu H o (.elems S (l.map f)) i j tot n (some ps) =
  if j+n<=(f (nth l i)).cells.length/\ps.all (·.one)=true/\(f (nth l i)).cells.all (·.one)=true then
   some (EI H o (.elems S ((l.map f).set i (kE (f (nth l i)) (JP (f (nth l i)).cells j ps))))) else none:=by
 simp_all [Nu,WK]
@[go_sem] theorem Zld {a cs} :kE (.agg a) cs= .agg cs:=ZP rfl rfl
@[go_sem] theorem Zle {n c l} :kE (.int k n) (c::l)=c:=ZP rfl rfl
@[go_sem] theorem Zin {n c l} :kE (.bool n) (c::l)=c:=ZP rfl rfl
@[go_sem] theorem ZcF {l} :DP P H t l=match Xi P t,C8 P t with
 | some zs,some pl=>(JQ H pl (zs.map .p) l).map mkA
 | _,_=>none:=ZP rfl rfl
@[go_sem] theorem ZcP {pl cs} :JQ H pl cs []=some cs:=by simp [JQ]
def TU (H:List Obj) (pl:Nat->Option (Nat×Nat)) (cs:List V) (r:List (Nat×V)) (q:Option (Nat×Nat)) (vs:Option (List V)):Option (List V):=match q,vs with
 | some (off,sz),some vs=>if vs.length=sz/\off+sz<=cs.length then JQ H pl (JP cs off vs) r else none
 | _,_=>none
@[go_sem] theorem uE {pl cs i v r} :JQ H pl cs ((i,v)::r)=TU H pl cs r (pl i) (vc H v):=ZP rfl rfl
@[go_sem] theorem rV {pl cs off sz vs r} :TU H pl cs r (some (off,sz)) (some vs)=if vs.length=sz/\off+sz<=cs.length then JQ H pl (JP cs off vs) r else none:=ZP rfl rfl
@[go_sem] theorem Zm9 {l i} :C3 l i=l[i]? :=ZP rfl rfl
@[go_sem] theorem Zm8 {n i} :plA n i=some (i*n,n):=ZP rfl rfl
end vals
end Go.AM
namespace Go.AM
open Go.RowKit
section
variable {P : Program} {H : List Obj} {k : IntKind} {t u : TypeId} {fr : List V}
def TZ (S:Option Nat) (H:List Obj) (n:Nat) (l:List (Nat×V)):Option (V×List Obj):=match S with
 | some S=>if n=l.length/\n*S<=16777216/\0<S then (QI H S 0 l).map fun xs=>(.sl H.length 0 n n,H++ [.elems S xs]) else none
 | none=>none
@[go_sem] theorem Zgq {n l} :Ws P (.buildSlice t n (List.toArray l)) fr H=TZ (Qi P t) H n (l.map fun x=>(x.1,ev fr x.2)):=by
 grind [Ws,Qi,TZ,M2]
@[go_sem] theorem uH {S n l} :TZ (some S) H n l=if n=l.length/\n*S<=16777216/\0<S then (QI H S 0 l).map fun xs=>(.sl H.length 0 n n,H++ [.elems S xs]) else none:=ZP rfl rfl
@[go_sem] theorem Zij {S n} :QI H S n []=some []:=by simp [QI]
@[go_sem] theorem ZdL {S n i x r} :QI H S n ((i,.p x)::r)=if i=n then if x.cells.length=S/\x.cells.all (·.one)=true then (QI H S (n+1) r).map (x:: ·) else none else none:=by rfl
@[go_sem] theorem Zk3 {S n i f r} :QI H S n ((i,.fn (.func f) [] [])::r)=if i=n then if 1=S then (QI H S (n+1) r).map (.fn f:: ·) else none else none:=by simp [QI,pvo,PV.cells,PV.one]
def Aj (P:Program) (t:TypeId):Option (Nat×Nat):=match P.underlying t with
 | some (.slice e)=>match YC P e,zval P e,(P.info? e).map (·.bytes) with
  | some S,some z,some by'=>if 0<S/\z.cells.length=S/\z.cells.all (·.one)=true/\by'≠0 then some (S,by') else none
  | _,_,_=>none
 | _=>none
theorem IR {S by'} (h:Aj P t=some (S,by')): ∃e z,P.underlying t=some (.slice e)/\YC P e=some S/\zval P e=some z/\(P.info? e).map (·.bytes)=some by'/\0<S/\z.cells.length=S/\z.cells.all (·.one)=true/\by'≠0:=by
 unfold Aj at h
 grind
def Wp (D:Option TypeDesc) (H:List Obj) (y:V):Option (List PV):=match D,y with
 | some (.slice _),.p (.list _ ys)=>some ys
 | some (.slice _),.sl o off len tot=>match oat H o with
  | .elems _ xs=>if xs.length=tot/\off+len<=tot then some ((xs.take (off+len)).drop off) else none
  | _=>none
 | some .string,.p (.str s)=>some (s.map fun b=> .int .u8 b.toNat)
 | _,_=>none
def iY (ob:Obj) (off len tot:Nat):Option (List PV):=match ob with | .elems _ xs=>if xs.length=tot/\off+len<=tot then some ((xs.take (off+len)).drop off) else none | _=>none
@[go_sem] theorem uU {e c ys} :Wp (some (.slice e)) H (.p (.list c ys))=some ys:=ZP rfl rfl
@[go_sem] theorem ZgA {e o off len tot} :Wp (some (.slice e)) H (.sl o off len tot)=iY (oat H o) off len tot:=ZP rfl rfl
theorem MC {S xs n} (h:List.length xs=n):iY (.elems S xs) 0 n n=some xs:=by grind [iY]
def IQ (H:List Obj) (F:Option (Nat×Nat)) (ys:Option (List PV)):Option (V×List Obj):=match F,ys with
 | some (S,by'),some ys=>if AS S ys=true/\ys.length*by'<=140737488355328/\ys.length<=140737488355328 then some (.sl H.length 0 ys.length ys.length,H++ [.elems S ys]) else none
 | _,_=>none
def UE (H:List Obj) (F:Option (Nat×Nat)) (ob:Obj) (o n:Nat) (ys:Option (List PV)):Option (V×List Obj):=match F,ob,ys with
 | some (S,by'),.elems S' xs,some ys=>if S'=S/\xs.length=n/\AS S ys=true/\(n+ys.length)*by'<=140737488355328/\n+ys.length<=140737488355328 then
   some (.sl o 0 (n+ys.length) (n+ys.length),EI H o (.elems S (xs++ys))) else none
 | _,_,_=>none
theorem OF {z x y ys e S by'} (h1:P.underlying t=some (.slice e)) (h2:YC P e=some S) (h3:zval P e=some z) (h4:(P.info? e).map (·.bytes)=some by') (h5:Fq P H u y=some ys) (h6:0<S/\z.cells.length=S/\z.cells.all (·.one)=true/\by'≠0) :
  Ve P H t u x y=if AS S ys=true then (match x with
    | .p (.list cl xs)=>if cl=true/\AS S xs=true/\(xs= []\/0<ys.length)/\(xs.length+ys.length)*by'<=140737488355328/\xs.length+ys.length<=140737488355328 then
      some (.sl H.length 0 (xs.length+ys.length) (xs.length+ys.length),H++ [.elems S (xs++ys)]) else none
    | .sl o off len tot=>match oat H o with
     | .elems S' xs=>if S'=S/\off=0/\len=tot/\xs.length=tot/\(tot+ys.length)*by'<=140737488355328/\tot+ys.length<=140737488355328 then
       some (.sl o 0 (tot+ys.length) (tot+ys.length),EI H o (.elems S (xs++ys))) else none
     | _=>none
    | _=>none) else none:=by
 simp only [Ve,h1,h2,h3,h4,h5]
 grind
theorem AT {y F} (hF:Aj P t=some F):Ve P H t u (.p (.list true [])) y=IQ H (some F) (Wp (P.underlying u) H y):=by
 obtain ⟨S,by'⟩:=F;obtain ⟨e,z,h1,h2,h3,h4,h6⟩:=IR hF;have e1:Wp (P.underlying u) H y=Fq P H u y:=ZP rfl rfl;rw [e1]
 cases h5:Fq P H u y with
 | none=>grind [Ve,IQ]
 | some ys =>
  grind [OF,IQ,AS]
theorem YS {y F o n} (hF:Aj P t=some F):Ve P H t u (.sl o 0 n n) y=UE H (some F) (oat H o) o n (Wp (P.underlying u) H y):=by
 obtain ⟨S,by'⟩:=F;obtain ⟨e,z,h1,h2,h3,h4,h6⟩:=IR hF;have e1:Wp (P.underlying u) H y=Fq P H u y:=ZP rfl rfl;rw [e1]
 cases h5:Fq P H u y with
 | none =>
  grind [Ve,UE]
 | some ys =>
  rw [OF h1 h2 h3 h4 h5 h6];simp only [UE]
  grind
@[go_sem] theorem Zc9 {S b ys} :IQ H (some (S,b)) (some ys)=if AS S ys=true/\ys.length*b<=140737488355328/\ys.length<=140737488355328 then some (.sl H.length 0 ys.length ys.length,H++ [.elems S ys]) else none:=ZP rfl rfl
theorem FW {S b xs ys o n} (hn:xs.length=n) (hb:(n+ys.length)*b<=140737488355328) (hb2:n+ys.length<=140737488355328):UE H (some (S,b)) (.elems S xs) o n (some ys)=if AS S ys=true then some (.sl o 0 (n+ys.length) (n+ys.length),EI H o (.elems S (xs++ys))) else none:=by
 simp_all [UE]
@[go_sem] theorem Zi1 {α:Type} {S} {f:α->PV} {l:List α} :iY (.elems S (l.map f)) 0 l.length l.length=some (l.map f):=MC Zb
@[go_sem] theorem Zi2 {S x} :iY (.elems S [x]) 0 1 1=some [x]:=MC Zb
@[go_sem] theorem Zdb {α:Type} {S b o x} {f:α->PV} {l:List α} (hb:(l.length+1)*b<=140737488355328) (hb2:l.length+1<=140737488355328):UE H (some (S,b)) (.elems S (l.map f)) o l.length (some [x])=if AS S [x]=true then some (.sl o 0 (l.length+1) (l.length+1),EI H o (.elems S (l.map f++ [x]))) else none :=
 FW Zb Za Za
@[go_sem] theorem Zdc {α β:Type} {S b o} {f:α->PV} {g:β->PV} {l:List α} {m:List β} (hb:(l.length+m.length)*b<=140737488355328) (hb2:l.length+m.length<=140737488355328):UE H (some (S,b)) (.elems S (l.map f)) o l.length (some (m.map g))=if AS S (m.map g)=true then some (.sl o 0 (l.length+m.length) (l.length+m.length),EI H o (.elems S (l.map f++m.map g))) else none:=by
 grind [FW]
@[go_sem] theorem Zlh {S} :AS S []=true:=ZP rfl rfl
@[go_sem] theorem Ziv {S x l} :AS S (x::l)=((x.cells.length==S)&&x.cells.all (·.one)&&AS S l):=by rfl
theorem UV {α:Type} {S} {f:α->PV} {l:List α} (h: ∀x,ZbN S (f x)=true):AS S (l.map f)=true:=by grind [AS]
def Pv (P:Program) (t:TypeId):Option (Nat×Nat×PV):=match P.underlying t with
  | some (.slice e)=>match YC P e,zval P e,(P.info? e).map (·.bytes) with
   | some S,some z,some by'=>if z.cells.all (·.one)=true/\z.cells.length=S/\0<S then some (S,by',z) else none
   | _,_,_=>none
  | _=>none
end
def WC : Nat->List Nat->List V->List V
 | _,_,[]=> []
 | i,[],_::l=> .junk::WC (i+1) [] l
 | i,k::ks,x::l=>if i=k then x::WC (i+1) ks l else .junk::WC (i+1) (k::ks) l
def Ap : List (Nat×V)->List V->List V
 | [],fr=>fr
 | (i,v)::r,fr=>Ap r (pt fr i v)
@[go_sem] theorem ZdG {i ks} :WC i ks []= []:=by rfl
@[go_sem] theorem ZbD {i x l} :WC i [] (x::l)= .junk::WC (i+1) [] l:=by simp [WC]
@[go_sem] theorem ZbC {i k ks x l} :WC i (k::ks) (x::l)=if i=k then x::WC (i+1) ks l else .junk::WC (i+1) (k::ks) l:=by simp [WC]
@[go_sem] theorem ZoM : ((0:Nat):Int)=0:=ZP rfl rfl
@[go_sem] theorem ZoN {n:Nat} :((n+1:Nat):Int)=(n:Int)+1:=ZP rfl rfl
@[go_sem] theorem ZnH {n:Nat} :((n:Int)).toNat=n:=ZP rfl rfl
@[go_sem] theorem ZiW {fr} :Ap [] fr=fr:=by simp [Ap]
@[go_sem] theorem ZdW {i v r fr} :Ap ((i,v)::r) fr=Ap r (pt fr i v):=by simp [Ap]
@[go_sem] theorem Zkn {p q:Prop} [Decidable p] [Decidable q]:(decide p&&decide q)=decide (p/\q):=Zb
@[go_sem] theorem ZbS {p q:Prop} [Decidable p] [Decidable q]:(decide p||decide q)=decide (p\/q):=Zb
theorem Zi {P c fr H Q} {I:Type} (ks:List Nat) (sets:I->List (Nat×V)) (hs:I->List Obj) (R:I->Prop) (μ:I->Nat) (i0:I) (hR:R i0) (h0:Weak H.length fr H (Ap (sets i0) (WC 0 ks fr)) (hs i0))
  (round: ∀i,R i->Q7 [] P c (Ap (sets i) (WC 0 ks fr)) (hs i) (QX (fun fr' H'=> ∃i',R i'/\μ i'<μ i/\Weak H.length fr' H' (Ap (sets i') (WC 0 ks fr)) (hs i')) Q)):AWP P (.loop c) fr H Q :=
 IZ R (fun i=>Ap (sets i) (WC 0 ks fr)) hs μ i0 hR h0 fun i hi=>Zf [] _ _ _ _ (round i hi)
theorem ZI {P c fr H Q} (cuts:List Nat) {I:Type} (ks:List Nat) (sets:I->List (Nat×V)) (hs:I->List Obj) (R:I->Prop) (μ:I->Nat) (i0:I) (hR:R i0) (h0:Weak H.length fr H (Ap (sets i0) (WC 0 ks fr)) (hs i0))
  (round: ∀i,R i->Q7 cuts P c (Ap (sets i) (WC 0 ks fr)) (hs i) (QX (fun fr' H'=> ∃i',R i'/\μ i'<μ i/\Weak H.length fr' H' (Ap (sets i') (WC 0 ks fr)) (hs i')) Q)):AWP P (.loop c) fr H Q :=
 IZ R (fun i=>Ap (sets i) (WC 0 ks fr)) hs μ i0 hR h0 fun i hi=>Zf cuts _ _ _ _ (round i hi)
theorem ZD {P x y fr H Q} {I:Type} (ks:List Nat) (sets:I->List (Nat×V)) (hs:I->List Obj) (R:I->Prop)
  (h:Q7 [] P x fr H (QX (fun fr' H'=> ∃i,R i/\Weak H.length fr' H' (Ap (sets i) (WC 0 ks fr)) (hs i)) Q)) (k: ∀i,R i->AWP P y (Ap (sets i) (WC 0 ks fr)) (hs i) Q):AWP P (.seq x y) fr H Q :=
 fun F ι a w hr hf=>by
 refine wp_seq (wp_mono (Zf [] _ _ _ _ h F ι a w hr hf) ?_);rintro e a' w' ⟨fr',H',ι',q,g,f⟩
 cases e with
 | normal =>
  obtain ⟨i,hi,hw⟩:=q;obtain ⟨ι2,r2,f2,g2⟩:=hw F ι' a' w' g.rel f;refine wp_mono (k i hi F ι2 a' w' r2 f2) ?_;rintro e2 a2 w2 ⟨fr2,H2,ι3,q2,g3,f3⟩;exact ⟨fr2,H2,ι3,q2,(g2 H ι w (ZM _) g).trans g3,f3⟩
 | exit id=>exact ⟨fr',H',ι',q,g,f⟩
 | goto l=>exact ⟨fr',H',ι',q,g,f⟩
 | ret=>exact ⟨fr',H',ι',q,g,f⟩
 | panic ch=>exact ⟨fr',H',ι',q,g,f⟩
 | outgrown=>exact ⟨fr',H',ι',q,g,f⟩
@[go_sem] theorem Zj2 {H n x} :FP H n x .junk=True:=by simp [FP]
@[go_sem] theorem ZoF {H n} {x y:PV} :FP H n (.p x) (.p y)=(y=x):=by simp [FP,refB,nN]
@[go_sem] theorem Zl7 {H n o off len tot o' off' len' tot'} :FP H n (.sl o off len tot) (.sl o' off' len' tot')=((o'=o/\off'=off/\len'=len/\tot'=tot)/\o<n):=by simp [FP,refB]
@[go_sem] theorem Zj3 {H n o off o' off'} :FP H n (.ptr o off) (.ptr o' off')=((o'=o/\off'=off)/\o<n):=by simp [FP,refB]
@[go_sem] theorem Zl3 {H n} :P7 H n [] []=True:=by simp [P7]
@[go_sem] theorem ZjZ {H n x l x' l'} :P7 H n (x::l) (x'::l')=(FP H n x x'/\P7 H n l l'):=by simp [P7]
@[go_sem] theorem Zl4 {H n l} :IF H n l []=True:=by simp [IF]
@[go_sem] theorem Zj0 {H n x l x' l'} :IF H n (x::l) (x'::l')=(DN H n x x'/\IF H n l l'):=by simp [IF]
@[go_sem] theorem ZeX {H n cs cs'} :DN H n (.cells cs) (.cells cs')=P7 H n cs cs':=by simp [DN]
@[go_sem] theorem ZeY {H n S S' xs xs'} :DN H n (.elems S xs) (.elems S' xs')=(S=S'/\xs=xs'):=by simp [DN]
@[go_sem] theorem Zl5 {H n es es2} :DN H n (.map es) (.map es2)=(es=es2):=by simp [DN]
@[go_sem] theorem ZoE {H n o o2} :FP H n (.mp o) (.mp o2)=(o2=o/\o<n):=by simp [FP,refB,nN]
@[go_sem] theorem Zj1 {H n} :DN H n .dead .dead=True:=by simp [DN]
theorem Weak.mk {n0 fr H fr' H'} (h:n0<=H'.length/\H'.length<=H.length/\P7 H H'.length fr fr'/\IF H H'.length H H'):Weak n0 fr H fr' H':=Weak.of h.1 h.2.2.1 h.2.2.2 h.2.1
theorem wk {n0 fr H fr' H'} (h:n0<=H'.length/\H'.length<=H.length/\P7 H H'.length fr fr'/\IF H H'.length H H':=by simp (disch:=omega) only [go_sem,seval]):Weak n0 fr H fr' H':=Weak.mk h
theorem we {n0 x H' a b} (h:n0<=List.length b/\List.length b<=H'.length/\P7 H' (List.length b) [x] [a]/\IF H' (List.length b) H' b:=by simp (disch:=omega) only [go_sem,seval]): ∃y H'',Weak n0 [x] H' [y] H''/\y=a/\H''=b:=⟨_,_,Weak.mk h,rfl,rfl⟩
attribute [go_sem] List.length_cons List.length_nil List.cons_append List.nil_append List.append_nil List.map_cons List.map_nil List.drop_zero List.drop_succ_cons List.drop_nil List.take_succ_cons List.take_zero List.take_nil List.all_cons List.all_nil
 XV Vu and_self true_and and_true Bv KX List.getElem?_cons_zero Du UP Wz Bool.and_self Xp if_true Yy W8 UQ IntWalk.i64_in IntWalk.i32_in IntWalk.u8_in IntWalk.u64_in IntWalk.u32_in
 beq_self_eq_true Jn List.replicate_zero Bool.or_true Bool.true_or Bool.or_false Bool.false_or X1 Jt
end Go.AM
namespace Go.AM
open Go.RowKit
theorem RP.weaker {X X':Nat->Prop} {w x v} (h:RP X w x v) (hx: ∀b,X' b->X b):RP X' w x v:=h.ext (w':=w) fun _ hb hs=>⟨fun h=>hb (hx _ h),hs,rfl⟩
theorem Good.forget {F w H' ι' w'} (he:Env F [] w) (hf: ∀b,F b->b<w.heap.size) (g:Good F [] [] w H' ι' w'):Good F [] [] w [] [] w' :=
 .up he ⟨⟨rfl,fun b hb=>by have:=hf b hb;have:=g.size;omega,fun i j b hi=>by simp at hi,fun i b hi=>by simp at hi,fun o cs ho=>by simp at ho,fun o S xs ho=>by simp at ho,fun o es ho=>by simp at ho,fun o T E r bs ho=>by simp at ho⟩,
  g.os,g.tape,g.output,fun b c t h=>(g.shape b c t h).imp (fun h=>absurd h.1 Zb) id,g.size,g.keep,fun _ _ h=>h,fun o ob ho=>by simp at ho⟩
theorem ACalls.pure {P g args} {y:PV} (h:ACalls P g args [] fun x _=>x= .p y):ACalls P g args [] fun x H'=>x= .p y/\H'= []:=by
 refine ⟨h.1,fun F ι w vs hr hv=> ?_⟩;have hι:ι= []:=Z1 hr.len;subst hι;refine (h.2 F [] w vs hr hv).mono ?_;rintro e w' ⟨x,H',ι',v,rfl,rfl,gd,rv⟩
 cases rv with | p _ _ rp =>
 exact ⟨_,[],[],v,rfl,⟨rfl,rfl⟩,gd.forget hr.env hr.fin,.p _ _ (rp.weaker fun b hb=> .inl (by rcases hb with hb | hb;exact hb;simp at hb))⟩
theorem Ei {F:Nat->Prop} {w w':World} {H':List Obj} {ι':List (Option Nat)} {v:Value} {o S n:Nat} {xs:List PV} (hF: ∀b,F b->b<w.heap.size) (hn:xs.length=n) (ho:oat H' o= .elems S xs)
  (gd:Good F [] [] w H' ι' w') (rv:RV F H' ι' w' (.sl o 0 n n) v): ∃ι2,Good F [] [] w [.elems S xs] ι2 w'/\RV F [.elems S xs] ι2 w' (.sl 0 0 n n) v:=by
 have hH:=Z7 ho Zb;have hlt:=(Zo.1 hH).1
 have hlt':o<ι'.length:=by rw [gd.rel.len];exact hlt
 have hι':ι'[o]? =some (ι'[o]):=by simp [hlt']
 have hget: ∀ {i:Nat} {q:Option Nat},[ι'[o]][i]? =some q->i=0/\ι'[o]? =some q:=fun {i q} h=>by
  grind
 have hown: ∀b,Own F [ι'[o]] b->Own F ι' b:=fun b hb=>by
  rcases hb with hb | hb
  ·exact .inl hb
  ·simp at hb;right;rw [hb];simp
 refine ⟨[ι'[o]],⟨⟨⟨rfl,fun b hb=> ?_,fun i j b hi hj=> ?_,fun i b hi=> ?_,fun o' cs ho'=> ?_,fun o' S' xs' ho'=> ?_,fun o' es ho'=>by grind,fun o' T E r bs ho'=>by grind⟩,gd.rel.env.le hown⟩,gd.os,gd.tape,gd.output,fun b c t h=>(gd.shape b c t h).imp (fun h=>absurd h.1 Zb) id,gd.size,gd.keep,fun b hb _ h=> ?_,fun o ob ho=>by simp at ho⟩,?_⟩
 ·have:=hF b hb;have:=gd.size;omega
 ·grind
 ·exact gd.rel.avo o b (hget hi).2
 ·grind
 ·cases o' with
  | zero =>
   simp at ho';obtain ⟨rfl,rfl⟩:=ho';rcases gd.rel.elm o _ _ hH with ⟨e1,e2⟩ | ⟨b,c,t,cap,e1,e2,e3,e4,e5,e6,e7⟩
   ·grind
   ·exact .inr ⟨b,c,t,cap,by grind,e2,e3,e4,e5,e6,fun i x j y hi hj=>(e7 i x j y hi hj).weaker hown⟩
  | succ i=>simp at ho'
 ·simp at h;exact gd.own b hb Zb (by rw [h];simp)
 ·cases rv with
  | slNil _ S2 a h1 h2 =>
   rw [hH] at h2;simp at h2;obtain ⟨rfl,rfl⟩:=h2;exact .slNil 0 S a (by grind) rfl
  | sl _ _ _ _ b S2 cap t xs2 c h1 h2 ht hw hcap hl hlen hm =>
   rw [hH] at h2;simp at h2;obtain ⟨rfl,rfl⟩:=h2;exact .sl 0 0 n n b S cap t xs c (by grind) rfl hn hw hcap hl hlen hm
  | slD _ _ _ _ _ h1=>grind
  | slS _ _ _ _ _ S2 xs2 h1 hne=>grind
  | slC _ _ _ _ _ _ hd=>grind
theorem ACalls.fresh {P g args} {S n:Nat} {xs:List PV} (hn:xs.length=n) (h:ACalls P g args [] fun x H'=> ∃o,x= .sl o 0 n n/\oat H' o= .elems S xs):ACalls P g args [] fun x H'=>x= .sl 0 0 n n/\H'= [.elems S xs]:=by
 refine ⟨h.1,fun F ι w vs hr hv=> ?_⟩;have hι:ι= []:=Z1 hr.len;subst hι;refine (h.2 F [] w vs hr hv).mono ?_;rintro e w' ⟨x,H',ι',v,rfl,⟨o,rfl,ho⟩,gd,rv⟩;obtain ⟨ι2,g2,r2⟩:=Ei hr.fin hn ho gd rv
 grind
theorem ACalls.freshE {P g args} {α:Type} {S:Nat} {f:α->PV} {R:List α->Prop} (h:ACalls P g args [] fun x H'=> ∃l:List α,R l/\ ∃o,x= .sl o 0 l.length l.length/\oat H' o= .elems S (l.map f)) :
  ACalls P g args [] fun x H'=> ∃l:List α,R l/\x= .sl 0 0 l.length l.length/\H'= [.elems S (l.map f)]:=by
 refine ⟨h.1,fun F ι w vs hr hv=> ?_⟩;have hι:ι= []:=Z1 hr.len;subst hι;refine (h.2 F [] w vs hr hv).mono ?_;rintro e w' ⟨x,H',ι',v,rfl,⟨l,hl,o,rfl,ho⟩,gd,rv⟩;obtain ⟨ι2,g2,r2⟩:=Ei hr.fin Zb ho gd rv
 grind
theorem ACalls.frozen {P g args} {S n:Nat} {xs:List PV} (hn:xs.length=n) (h:ACalls P g args [] fun x H'=>x= .sl 0 0 n n/\H'= [.elems S xs]):ACalls P g args [] fun x H'=>x= .p (.list false xs)/\H'= []:=by
 refine ⟨h.1,fun F ι w vs hr hv=> ?_⟩;have hι:ι= []:=Z1 hr.len;subst hι;refine (h.2 F [] w vs hr hv).mono ?_;rintro e w' ⟨x,H',ι',v,rfl,⟨rfl,rfl⟩,gd,rv⟩;have hk:Keeps (Own F ι') w' (Own F []) w':=fun b hb hs=>⟨fun h=>hb (.inl (by rcases h with h | h;exact h;simp at h)),hs,rfl⟩
 have:=AJ (S:=S) (xs:=xs) (off:=0) (len:=n) (tot:=n) (Own F []) (fun b hb h=>by
  rcases h with h | h
  ·exact (gd.rel.avo 0 b hb).1 h
  ·simp at h) hk gd.rel rfl hn Za rv
 rw [XV,List.drop_zero,Dw Za] at this;exact ⟨_,[],[],v,rfl,⟨rfl,rfl⟩,gd.forget hr.env hr.fin,.p _ _ this⟩
theorem ACalls.frozenE {P g args} {α:Type} {S:Nat} {f:α->PV} {R:List α->Prop} (h:ACalls P g args [] fun x H'=> ∃l:List α,R l/\x= .sl 0 0 l.length l.length/\H'= [.elems S (l.map f)]) :
  ACalls P g args [] fun x H'=> ∃l:List α,R l/\x= .p (.list false (l.map f))/\H'= []:=by
 refine ⟨h.1,fun F ι w vs hr hv=> ?_⟩;have hι:ι= []:=Z1 hr.len;subst hι;refine (h.2 F [] w vs hr hv).mono ?_;rintro e w' ⟨x,H',ι',v,rfl,⟨l,hl,rfl,rfl⟩,gd,rv⟩;have hk:Keeps (Own F ι') w' (Own F []) w':=fun b hb hs=>⟨fun h=>hb (.inl (by rcases h with h | h;exact h;simp at h)),hs,rfl⟩
 have:=AJ (S:=S) (xs:=l.map f) (off:=0) (len:=l.length) (tot:=l.length) (Own F []) (fun b hb h=>by
  rcases h with h | h
  ·exact (gd.rel.avo 0 b hb).1 h
  ·simp at h) hk gd.rel rfl Zb Za rv
 rw [XV,List.drop_zero,Dw Zb] at this;exact ⟨_,[],[],v,rfl,⟨l,hl,rfl,rfl⟩,gd.forget hr.env hr.fin,.p _ _ this⟩
theorem ACalls.useV {P g args} {α:Type} {f:α->PV} {R:α->Prop} {H:List Obj} {K:V->List Obj->Prop} (h:ACalls P g args [] fun x H'=> ∃a:α,R a/\x= .p (f a)/\H'= []) (k: ∀a,R a->K (.p (f a)) H) (ha:Xf 0 args=true:=by rfl):ACalls P g args H K:=by
 refine (h.behind ha H).mono ?_;rintro x H' ⟨y',H1,⟨a,ra,rfl,rfl⟩,rfl,rfl⟩
 grind [shV]
theorem ACalls.useE {P g args} {α:Type} {S:Nat} {f:α->PV} {R:List α->Prop} {H:List Obj} {K:V->List Obj->Prop} (h:ACalls P g args [] fun x H'=> ∃l:List α,R l/\x= .sl 0 0 l.length l.length/\H'= [.elems S (l.map f)])
  (k: ∀l,R l->K (.sl H.length 0 l.length l.length) (H++ [.elems S (l.map f)])) (ha:Xf 0 args=true:=by rfl):ACalls P g args H K:=by
 refine (h.behind ha H).mono ?_;rintro x H' ⟨y',H1,⟨l,rl,rfl,rfl⟩,rfl,rfl⟩
 grind [shV,shO]
theorem ACalls.use {P g args} {y:PV} {H:List Obj} {K:V->List Obj->Prop} (h:ACalls P g args [] fun x H'=>x= .p y/\H'= []) (k:K (.p y) H) (ha:Xf 0 args=true:=by rfl):ACalls P g args H K:=by
 refine (h.behind ha H).mono ?_;rintro x H' ⟨y',H1,⟨rfl,rfl⟩,rfl,rfl⟩
 grind [shV]
theorem ACalls.useF {P g args} {S n:Nat} {xs:List PV} {H:List Obj} {K:V->List Obj->Prop} (h:ACalls P g args [] fun x H'=>x= .sl 0 0 n n/\H'= [.elems S xs]) (k:K (.sl H.length 0 n n) (H++ [.elems S xs])) (ha:Xf 0 args=true:=by rfl):ACalls P g args H K:=by
 refine (h.behind ha H).mono ?_;rintro x H' ⟨y',H1,⟨rfl,rfl⟩,rfl,rfl⟩
 grind [shV,shO]
theorem Zc {P:Program} {g:FuncId} {fn:Func} {c:Code} {args:List V} {y:PV} (hf:P.funcs[g]? =some fn) (hb:fn.body=some c) (hg:Zh P g)
  (h:Q7 [] P c (args++List.replicate (fn.ntmps-args.length) .junk) [] (JN P fn.results.toList fun x _=>x= .p y)):ACalls P g args [] fun x H'=>x= .p y/\H'= [] :=
 (Ya hf hb hg (Zf [] _ _ _ _ h)).pure
theorem AV (cuts:List Nat) {P:Program} {g:FuncId} {fn:Func} {c:Code} {args:List V} {y:PV} (hf:P.funcs[g]? =some fn) (hb:fn.body=some c) (hg:Zh P g)
  (h:Q7 cuts P c (args++List.replicate (fn.ntmps-args.length) .junk) [] (JN P fn.results.toList fun x _=>x= .p y)):ACalls P g args [] fun x H'=>x= .p y/\H'= [] :=
 (Ya hf hb hg (Zf cuts _ _ _ _ h)).pure
theorem AU {P:Program} {g:FuncId} {fn:Func} {c:Code} {args:List V} {S n:Nat} {xs:List PV} (hn:xs.length=n) (hf:P.funcs[g]? =some fn) (hb:fn.body=some c) (hg:Zh P g)
  (h:Q7 [] P c (args++List.replicate (fn.ntmps-args.length) .junk) [] (JN P fn.results.toList fun x H'=> ∃o,x= .sl o 0 n n/\oat H' o= .elems S xs)):ACalls P g args [] fun x H'=>x= .sl 0 0 n n/\H'= [.elems S xs] :=
 (Ya hf hb hg (Zf [] _ _ _ _ h)).fresh hn
theorem Fp (cuts:List Nat) {P:Program} {g:FuncId} {fn:Func} {c:Code} {args:List V} {S n:Nat} {xs:List PV} (hn:xs.length=n) (hf:P.funcs[g]? =some fn) (hb:fn.body=some c) (hg:Zh P g)
  (h:Q7 cuts P c (args++List.replicate (fn.ntmps-args.length) .junk) [] (JN P fn.results.toList fun x H'=> ∃o,x= .sl o 0 n n/\oat H' o= .elems S xs)):ACalls P g args [] fun x H'=>x= .sl 0 0 n n/\H'= [.elems S xs] :=
 (Ya hf hb hg (Zf cuts _ _ _ _ h)).fresh hn
theorem Z2 (cuts:List Nat) {P:Program} {g:FuncId} {fn:Func} {c:Code} {args:List V} {α:Type} {S:Nat} {f:α->PV} {R:List α->Prop} (hf:P.funcs[g]? =some fn) (hb:fn.body=some c) (hg:Zh P g)
  (h:Q7 cuts P c (args++List.replicate (fn.ntmps-args.length) .junk) [] (JN P fn.results.toList fun x H'=> ∃l:List α,R l/\ ∃o,x= .sl o 0 l.length l.length/\oat H' o= .elems S (l.map f))):ACalls P g args [] fun x H'=> ∃l:List α,R l/\x= .sl 0 0 l.length l.length/\H'= [.elems S (l.map f)] :=
 (Ya hf hb hg (Zf cuts _ _ _ _ h)).freshE
theorem Weak.ofNil {n0 fr H fr' H'} (t S:Nat) (h:gt fr t= .p (.list true [])) (hn:n0<=H.length) (k:Weak n0 (pt fr t (.sl H.length 0 0 0)) (H++ [.elems S []]) fr' H'):Weak n0 fr H fr' H' :=
 (Weak.nil t S h hn).trans k
end Go.AM
namespace Go.AM
open Go.RowKit
section
variable {P : Program} {H : List Obj} {t : TypeId} {fr : List V}
def D0 (e:Option (Option Nat×Nat)) (c:Bool) (xs:List PV) (lo hi:V):Option V:=match e,lo,hi with
 | some (none,S),.p (.int _ a),.p (.int _ b)=>if DU S xs=true/\0<=a/\a<=b/\b<=xs.length then some (.p (.list (c&&decide (b=xs.length)) ((xs.take b.toNat).drop a.toNat))) else none
 | _,_,_=>none
def V.isInt : V->Option Int
 | .p (.int _ n)=>some n
 | _=>none
theorem V.isInt_some {x:V} {n} (h:x.isInt=some n): ∃k,x= .p (.int k n):=by
 unfold V.isInt at h;grind
theorem KB {d:Int} {x:Operand} :MY d fr (some x)=(ev fr x).isInt:=rfl
theorem Ce {c xs k k' a b} :(KI P t c xs a b none).map .p=D0 (YZ P t) c xs (.p (.int k a)) (.p (.int k' b)):=by
 simp only [KI,D0]
 grind
theorem OS {e c xs lo hi} (h:lo.isInt=none):D0 e c xs lo hi=none:=by
 unfold D0;grind [V.isInt]
theorem OR {e c xs lo hi} (h:hi.isInt=none):D0 e c xs lo hi=none:=by
 unfold D0;grind [V.isInt]
@[go_sem] theorem Zdd {c xs hi} :Vm P H t fr (.p (.list c xs)) none (some hi) none=D0 (YZ P t) c xs (.p (.int .i64 0)) (ev fr hi):=by
 simp only [Vm,KB]
 cases h:(ev fr hi).isInt with
 | none=>simp [MY,OR h]
 | some n=>obtain ⟨k,e⟩:=V.isInt_some h;rw [e,<- Ce];rfl
@[go_sem] theorem Zde {c xs lo} :Vm P H t fr (.p (.list c xs)) (some lo) none none=D0 (YZ P t) c xs (ev fr lo) (.p (.int .i64 (List.length xs))):=by
 simp only [Vm,KB]
 cases h:(ev fr lo).isInt with
 | none=>simp [OS h]
 | some n=>obtain ⟨k,e⟩:=V.isInt_some h;rw [e,<- Ce];rfl
@[go_sem] theorem sA {c xs lo hi} :Vm P H t fr (.p (.list c xs)) (some lo) (some hi) none=D0 (YZ P t) c xs (ev fr lo) (ev fr hi):=by
 simp only [Vm,KB]
 cases h:(ev fr lo).isInt with
 | none=>simp [OS h]
 | some n =>
  cases h2:(ev fr hi).isInt with
  | none=>simp [OR h2]
  | some m=>grind [V.isInt_some,Ce]
@[go_sem] theorem Zgz {α:Type} {f:α->PV} {l:List α} {S c k k' a b} (h0:0<=a) (h1:a<=b) (h2:b<=(l.length:Int)) :
  D0 (some (none,S)) c (l.map f) (.p (.int k a)) (.p (.int k' b))=if DU S (l.map f)=true then some (.p (.list (c&&decide (b=l.length)) (((l.take b.toNat).drop a.toNat).map f))) else none:=by
 simp_all [D0]
end
def IM (P:Program) (d:Option TypeDesc) (x i:V):Option V :=
 match d,x,i with
 | some .string,.p (.str s),.p (.int _ n)=>if 0<=n then (s[n.toNat]?).map fun b=> .p (.int .u8 b.toNat) else none
 | some (.array k e),.p (.agg cs),.p (.int _ n)=>if 0<=n/\n<k then (match YC P e with | some m=>(apart P e cs (n.toNat*m)).map .p | none=>none) else none
 | _,_,_=>none
@[go_sem] theorem Zkj {P:Program} {t:TypeId} {x i:V} :IN P t x i=IM P (P.underlying t) x i:=ZP rfl rfl
@[go_sem] theorem ZcU {P:Program} {s:List UInt8} {k n} (h0:0<=n) (h1:n<(s.length:Int)):IM P (some .string) (.p (.str s)) (.p (.int k n))=some (.p (.int .u8 ((nth s n.toNat).toNat:Nat))):=by
 grind [IM,Zj]
def Hl (d:Option TypeDesc) (s:List UInt8) (lo hi:V):Option V:=match d,lo,hi with
 | some .string,.p (.int _ a),.p (.int _ b)=>if 0<=a/\a<=b/\b<=s.length then some (.p (.str ((s.take b.toNat).drop a.toNat))) else none
 | _,_,_=>none
theorem lD {d s lo hi} (h:lo.isInt=none):Hl d s lo hi=none:=by
 unfold Hl;grind [V.isInt]
theorem lC {d s lo hi} (h:hi.isInt=none):Hl d s lo hi=none:=by
 unfold Hl;grind [V.isInt]
section
variable {P : Program} {H : List Obj} {t : TypeId} {fr : List V}
theorem Rm {s:List UInt8} {k k' a b} :(match P.underlying t with | some .string=>(if 0<=a/\a<=b/\b<=(s.length:Int) then some (V.p (.str ((s.take b.toNat).drop a.toNat))) else none) | _=>none)=Hl (P.underlying t) s (.p (.int k a)) (.p (.int k' b)):=by
 simp only [Hl]
 grind
@[go_sem] theorem lE {s lo hi} :Vm P H t fr (.p (.str s)) (some lo) (some hi) none=Hl (P.underlying t) s (ev fr lo) (ev fr hi):=by
 simp only [Vm,KB]
 cases h:(ev fr lo).isInt with
 | none=>rw [lD h];simp
 | some n =>
  cases h2:(ev fr hi).isInt with
  | none=>rw [lC h2];simp
  | some m =>
   grind [V.isInt_some,Rm]
end
@[go_sem low] theorem T4 {H:List Obj} {S b xs ys o n} :UE H (some (S,b)) (.elems S xs) o n (some ys)=if xs.length=n/\AS S ys=true/\(n+ys.length)*b<=140737488355328/\n+ys.length<=140737488355328 then some (.sl o 0 (n+ys.length) (n+ys.length),EI H o (.elems S (xs++ys))) else none:=by simp [UE]
@[go_sem] theorem Zl6 {H:List Obj} {n f a b f' a' b'} :FP H n (.fn f a b) (.fn f' a' b')=((f'=f/\a'=a/\b'=b)/\refB n (.fn f a b)=true):=by simp [FP,nN]
@[go_sem] theorem Zln {n f a b} :refB n (.fn f a b)=(Xf n a&&Xf n b):=by simp [refB]
@[go_sem] theorem Zna {n x} :refB n (.p x)=true:=by simp [refB]
@[go_sem] theorem ZiQ {n o off} :refB n (.ptr o off)=decide (o<n):=by simp [refB]
@[go_sem] theorem Zlo {n o off l t} :refB n (.sl o off l t)=decide (o<n):=by simp [refB]
@[go_sem] theorem ZdU {n} :Xf n []=true:=by simp [Xf]
@[go_sem] theorem Zb3 {n x l} :Xf n (x::l)=(refB n x&&Xf n l):=by simp [Xf]
theorem ACalls.useH {P g args H} {v:V} {H2:List Obj} {K:V->List Obj->Prop} (h:ACalls P g args H fun x H'=>x=v/\H'=H2) (k:K v H2):ACalls P g args H K :=
 h.mono (by grind)
theorem AY {α:Type} {f:α->PV} {S:Nat} (h: ∀x,(f x).cells.length=S) (l:List α):DU S (l.map f)=true:=by
 cases l with
 | nil=>rfl
 | cons x l=>simp [DU,h]
def U4 (F:Option (Nat×Nat×PV)) (H:List Obj) (x y:V):Option (V×List Obj):=match F,x,y with
 | some (S,by',z),.p (.int .i64 n),.p (.int .i64 m)=>if n=m/\0<=n/\(by':Int)*n<=281474976710656/\n<=281474976710656 then some (.sl H.length 0 n.toNat n.toNat,H++ [.elems S (List.replicate n.toNat z)]) else none
 | _,_,_=>none
theorem DW {P:Program} {t:TypeId} {fr:List V} {H:List Obj} {x y:Operand} {F} (h:Pv P t=some F):Ws P (.makeSlice t x y) fr H=U4 (some F) H (ev fr x) (ev fr y):=by
 unfold Pv at h
 split at h
 ·rename_i e hu
  split at h
  ·rename_i S' z' b h1 h2 h3
   split at h
   ·rename_i hc;simp at h;subst h
    have h3':(P.info? e).map (fun x=>(x.bytes:Int))=some (b:Int):=by
     cases hi:P.info? e with
     | none=>grind
     | some i=>grind
    simp only [Ws,hu,h2,hc.1,if_true,OL,h1,h3'];generalize ev fr x=X;generalize ev fr y=Y
    by_cases hX: ∃n,X= .p (.int .i64 n)
    ·obtain ⟨n,rfl⟩:=hX
     by_cases hY: ∃m,Y= .p (.int .i64 m)
     ·obtain ⟨m,rfl⟩:=hY;simp [U4,hc.2]
     ·have e1:U4 (some (S',b,z')) H (.p (.int .i64 n)) Y=none:=by
       unfold U4;grind
      grind
    ·have e1:U4 (some (S',b,z')) H X Y=none:=by
      unfold U4;grind
     grind
   ·cases h
  ·cases h
 ·cases h
@[go_sem] theorem Zc3 {H:List Obj} {S b:Nat} {z n} (h0:0<=n) (h1:(b:Int)*n<=281474976710656) (h2:n<=281474976710656):U4 (some (S,b,z)) H (.p (.int .i64 n)) (.p (.int .i64 n))=some (.sl H.length 0 n.toNat n.toNat,H++ [.elems S (List.replicate n.toNat z)]):=by
 simp_all [U4]
theorem ZbT (x y:Nat) (hx:x<9223372036854775808) (hy:y<9223372036854775808):IntKind.i64.wrap ((BitVec.ofInt 64 (x:Int)|||BitVec.ofInt 64 (y:Int)).toNat:Int)=((x|||y:Nat):Int):=by
 have e:(BitVec.ofInt 64 (x:Int)|||BitVec.ofInt 64 (y:Int)).toNat=x|||y:=by
  grind
 have h:x|||y<2^63:=J5 Za Za
 grind [IntWalk.i64_in]
theorem kO (x y:Nat) (hx:x<9223372036854775808) (hy:y<9223372036854775808):IntKind.i64.wrap ((BitVec.ofInt 64 (x:Int)&&&BitVec.ofInt 64 (y:Int)).toNat:Int)=((x&&&y:Nat):Int):=by
 grind [Nat.and_le_left,IntWalk.i64_in]
@[go_sem high] theorem TN {P:Program} {t:TypeId} {x y:Nat} (hx:x<9223372036854775808) (hy:y<9223372036854775808):XX P .or t (.p (.int .i64 (x:Int))) (.p (.int .i64 (y:Int)))=some (.int .i64 ((x|||y:Nat):Int)):=by
 rw [OG];exact X0 (fun q=>some (PV.int .i64 q)) (ZbT x y hx hy)
@[go_sem high] theorem FT {P:Program} {t:TypeId} {x y:Nat} (hx:x<9223372036854775808) (hy:y<9223372036854775808):XX P .and t (.p (.int .i64 (x:Int))) (.p (.int .i64 (y:Int)))=some (.int .i64 ((x&&&y:Nat):Int)):=by
 rw [IG];exact X0 (fun q=>some (PV.int .i64 q)) (kO x y hx hy)
def pw (k:Nat):Nat:=2^k
theorem BL (k:Nat):pw (k+1)=2*pw k:=by grind [pw]
theorem QN {k m:Nat} (h:k<=m):pw k<=pw m:=XZ Za h
theorem N9 (k:Nat):0<pw k:=Nat.pow_pos Za
theorem GL : pw 62=4611686018427387904:=by decide
@[go_sem high] theorem ZcD {P:Program} {t:TypeId} {k'} {a:Int} (h0:0<=a) (h1:a<=62):XX P .shl t (.p (.int .i64 1)) (.p (.int k' a))=some (.int .i64 ((pw a.toNat:Nat):Int)):=by
 rw [TP h0]
 have h2:min a.toNat IntKind.i64.bits=a.toNat:=by show min a.toNat 64=a.toNat;omega
 rw [h2,Int.one_mul]
 have h3:((2:Int)^a.toNat)=((pw a.toNat:Nat):Int):=by simp [pw]
 rw [h3];have:=QN (show a.toNat<=62 by omega)
 grind [GL,IntWalk.i64_in]
attribute [go_sem] List.length_append List.map_append not_false_eq_true not_true_eq_false false_and and_false true_or or_true false_or or_false Classical.not_not Bool.false_eq_true Bool.and_false Bool.false_and
end Go.AM
namespace Go.AM
open Go.RowKit
theorem Pf {P ds frJ H} {K K':List V->Prop} : ∀(l:List Oper) (i:Nat) (vals:List V),(∀ys,ys.length=vals.length+l.length->K ys->K' ys)->hd P ds frJ H K i l vals->hd P ds frJ H K' i l vals
 | [],i,vals,hk,h=>hk vals rfl h
 | o::l,i,vals,hk,h=>by
  have ih: ∀y,hd P ds frJ H K (i+1) l (vals++ [y])->hd P ds frJ H K' (i+1) l (vals++ [y]):=fun y=>Pf l (i+1) (vals++ [y]) fun ys hy=>hk ys (by simp at hy ⊢;omega);simp only [hd] at h ⊢
  split at h
  ·obtain ⟨y,h1,h2⟩:=h;exact ⟨y,h1,ih y h2⟩
  ·unfold Xx at h ⊢
   split at h
   ·exact ⟨fun e=>by obtain ⟨y,h1,h2⟩:=h.1 e;exact ⟨y,h1,ih y h2⟩,fun e=>ih _ (h.2 e)⟩
   ·exact ih _ h
   ·exact h.elim
def YB : List (Option Nat)->List V->List V->List V
 | some d::ds,v::vals,fr=>YB ds vals (pt fr d v)
 | none::ds,_::vals,fr=>YB ds vals fr
 | _,_,fr=>fr
def RT (A:V->Prop) (B:V->Prop):Prop:= ∃y,A y/\B y
section
variable {P : Program} {ds : List (Option Nat)} {frJ : List V} {H : List Obj} {K : List V -> Prop} {i : Nat} {r : List Oper} {vals : List V} {d : Option Nat} {op : Op} {t : TypeId} {ps : String} {af : Array Edge}
@[go_sem ↓, go_sem] theorem ZmG {v:V} {B:V->Prop} {t} :RT (fun y=>v=y) (Zy B t)=B v:=by simp [RT,Zy]
def sX (ds:List (Option Nat)) (vals:List V) (l:List Nat) (fr:List V) (a:Option (Option Nat)) (v:Option V):List V:=match a,v with
 | some (some d),some v=>hset ds vals l (pt fr d v)
 | _,_=>hset ds vals l fr
theorem Zq {f azs} {z:PV} {B:V->Prop} {t} (h:ACalls P f azs [] fun x H'=>x= .p z/\H'= []) (k:B (.p z)) (ha:Xf 0 azs=true:=by rfl) :
  RT (fun y=>ACalls P f azs H (Zy (Zy (fun x H'=>x=y/\H'=H) ⟨⟩) ⟨⟩)) (Zy B t) :=
 ⟨.p z,h.use ⟨rfl,rfl⟩ ha,k⟩
end
section
variable {P : Program} {fr : List V} {H : List Obj} {k : V -> List Obj -> Prop} {d : Option Nat} {t : TypeId} {ps : String} {af : Array Edge} {g : Option (Nat × Bool)}
@[go_sem ↓] theorem uX {u n l} :ZE P ⟨d,.buildSlice u n (List.toArray l),t,ps,af,g⟩ fr H k=Di ((IP (Qi P u) H n (l.map fun x=>(x.1,ev fr x.2))).map .p) (Zy (fun v=>k v H) ⟨⟩):=by
 grind [ZE,Di,Zy]
@[go_sem] theorem uI {S n l} :IP (some S) H n l=if n=l.length/\n*S<=16777216/\0<S then (QI H S 0 l).map (.list false) else none:=ZP rfl rfl
@[go_sem ↓] theorem sD {x} :ZE P ⟨d,.move x,t,ps,af,g⟩ fr H k=Zt P ⟨d,.move x,t,ps,af,g⟩ fr H k:=rfl
@[go_sem ↓] theorem jW {x} :ZE P ⟨d,.assign x,t,ps,af,g⟩ fr H k=Zt P ⟨d,.assign x,t,ps,af,g⟩ fr H k:=rfl
@[go_sem ↓] theorem sE {x y z} :ZE P ⟨d,.pick x y z,t,ps,af,g⟩ fr H k=Zt P ⟨d,.pick x y z,t,ps,af,g⟩ fr H k:=rfl
@[go_sem ↓] theorem lG {x} :ZE P ⟨d,.alloc x,t,ps,af,g⟩ fr H k=Zt P ⟨d,.alloc x,t,ps,af,g⟩ fr H k:=rfl
@[go_sem ↓] theorem uV {x y} :ZE P ⟨d,.box x y,t,ps,af,g⟩ fr H k=Zt P ⟨d,.box x y,t,ps,af,g⟩ fr H k:=rfl
@[go_sem ↓] theorem lI {x y} :ZE P ⟨d,.build x y,t,ps,af,g⟩ fr H k=Zt P ⟨d,.build x y,t,ps,af,g⟩ fr H k:=rfl
@[go_sem ↓] theorem sC {x y} :ZE P ⟨d,.load x y,t,ps,af,g⟩ fr H k=Zt P ⟨d,.load x y,t,ps,af,g⟩ fr H k:=rfl
@[go_sem ↓] theorem lM {x y z} :ZE P ⟨d,.store x y z,t,ps,af,g⟩ fr H k=Zt P ⟨d,.store x y z,t,ps,af,g⟩ fr H k:=rfl
@[go_sem ↓] theorem Tv {x} :ZE P ⟨d,.nilCheck x,t,ps,af,g⟩ fr H k=Zt P ⟨d,.nilCheck x,t,ps,af,g⟩ fr H k:=rfl
@[go_sem ↓] theorem lH {x y z u v} :ZE P ⟨d,.binOp x y z u v,t,ps,af,g⟩ fr H k=Zt P ⟨d,.binOp x y z u v,t,ps,af,g⟩ fr H k:=rfl
@[go_sem ↓] theorem sF {x y z} :ZE P ⟨d,.unOp x y z,t,ps,af,g⟩ fr H k=Zt P ⟨d,.unOp x y z,t,ps,af,g⟩ fr H k:=rfl
@[go_sem ↓] theorem aA {x y z} :ZE P ⟨d,.convert x y z,t,ps,af,g⟩ fr H k=Zt P ⟨d,.convert x y z,t,ps,af,g⟩ fr H k:=rfl
@[go_sem ↓] theorem Tu {x y z} :ZE P ⟨d,.makeFunc x y z,t,ps,af,g⟩ fr H k=Zt P ⟨d,.makeFunc x y z,t,ps,af,g⟩ fr H k:=rfl
@[go_sem ↓] theorem Rp {x y z} :ZE P ⟨d,.makeSlice x y z,t,ps,af,g⟩ fr H k=Zt P ⟨d,.makeSlice x y z,t,ps,af,g⟩ fr H k:=rfl
@[go_sem ↓] theorem lL {x y z u v} :ZE P ⟨d,.slice x y z u v,t,ps,af,g⟩ fr H k=Zt P ⟨d,.slice x y z u v,t,ps,af,g⟩ fr H k:=rfl
@[go_sem ↓] theorem Rn {x y z} :ZE P ⟨d,.fieldAddr x y z,t,ps,af,g⟩ fr H k=Zt P ⟨d,.fieldAddr x y z,t,ps,af,g⟩ fr H k:=rfl
@[go_sem ↓] theorem lJ {x y z} :ZE P ⟨d,.field x y z,t,ps,af,g⟩ fr H k=Zt P ⟨d,.field x y z,t,ps,af,g⟩ fr H k:=rfl
@[go_sem ↓] theorem Ro {x y z} :ZE P ⟨d,.indexAddr x y z,t,ps,af,g⟩ fr H k=Zt P ⟨d,.indexAddr x y z,t,ps,af,g⟩ fr H k:=rfl
@[go_sem ↓] theorem lK {x y z} :ZE P ⟨d,.index x y z,t,ps,af,g⟩ fr H k=Zt P ⟨d,.index x y z,t,ps,af,g⟩ fr H k:=rfl
@[go_sem ↓] theorem aB {x y} :ZE P ⟨d,.extract x y,t,ps,af,g⟩ fr H k=Zt P ⟨d,.extract x y,t,ps,af,g⟩ fr H k:=rfl
@[go_sem ↓] theorem sB {x y z} :ZE P ⟨d,.call ⟨.value x,y,z⟩,t,ps,af,g⟩ fr H k=Zt P ⟨d,.call ⟨.value x,y,z⟩,t,ps,af,g⟩ fr H k:=rfl
@[go_sem ↓] theorem uW {y z} :ZE P ⟨d,.call ⟨.builtin .len,y,z⟩,t,ps,af,g⟩ fr H k=Zt P ⟨d,.call ⟨.builtin .len,y,z⟩,t,ps,af,g⟩ fr H k:=rfl
@[go_sem ↓] theorem uY {y z} :ZE P ⟨d,.call ⟨.builtin .max,y,z⟩,t,ps,af,g⟩ fr H k=Zt P ⟨d,.call ⟨.builtin .max,y,z⟩,t,ps,af,g⟩ fr H k:=rfl
@[go_sem ↓] theorem uZ {y z} :ZE P ⟨d,.call ⟨.builtin .min,y,z⟩,t,ps,af,g⟩ fr H k=Zt P ⟨d,.call ⟨.builtin .min,y,z⟩,t,ps,af,g⟩ fr H k:=rfl
theorem Hn {o fr' H'} (h:fr=fr') (h2:H=H'):ZE P o fr H k=ZE P o fr' H' k:=by rw [h,h2]
end
attribute [congr] Hn
attribute [go_sem] List.filter_cons List.filter_nil
end Go.AM
namespace Go.AM
open Go.RowKit
mutual
/-- no memory in it -/
def NE : PV->Bool
 | .list _ xs=>xs.isEmpty
 | .agg cs=>CW cs
 | _=>true
def CW : List PV->Bool
 | []=>true
 | x::l=>NE x&&CW l
end
theorem KN : ∀ {l:List PV},CW l=true-> ∀(j:Nat) (x:PV),l[j]? =some x->NE x=true
 | [],_,j,x,h=>by simp at h
 | y::l,hh,j,x,h=>by
  simp [CW] at hh
  cases j with
  | zero=>simp at h;subst h;exact hh.1
  | succ j=>exact KN hh.2 j x (by simpa using h)
theorem RP.anywhere {X X':Nat->Prop} {w w' x v} (h:RP X w x v) (hf:NE x=true):RP X' w' x v:=by
 induction h with
 | int k n=>exact .int k n
 | bool b=>exact .bool b
 | str s=>exact .str s
 | nilp=>exact .nilp
 | nili=>exact .nili
 | nilf=>exact .nilf
 | nilm=>exact .nilm
 | fn f=>exact .fn f
 | nils cl=>exact .nils cl
 | emp cl a cap hc hm ha=>exact .emp cl a cap hc hm ha
 | list cl xs b off cap S u hX hb hc hm hcl hS hu hr ih =>
  have:xs= []:=by grind [NE]
  subst this;exact .emp cl _ cap (fun h=>by grind) hm (fun _ x hx=>by grind)
 | agg cs a hs _ ih=>exact .agg cs a hs fun j c hj=>ih j c hj (KN (by grind [NE]) j c hj)
def vw (H:List Obj):V->Option V
 | .p x=>some (.p x)
 | .fn f [] []=>some (.fn f [] [])
 | .sl o off len tot=>match oat H o with
  | .elems _ xs=>if xs.length=tot/\off+len<=tot then some (.p (.list false ((xs.take (off+len)).drop off))) else none
  | _=>none
 | _=>none
def vws (H:List Obj):List V->Option (List V)
 | []=>some []
 | x::l=>match vw H x,vws H l with | some y,some ys=>some (y::ys) | _,_=>none
abbrev Ai : Nat->Prop:=fun _=>False
theorem BD {b:Nat} : ¬Own Ai [] b:=by simp [Own]
theorem ZiT {F H ι w x v y} (hr:Rel F H ι w) (h:RV F H ι w x v) (hy:vw H x=some y):RV Ai [] [] w y v:=by
 unfold vw at hy
 split at hy
 ·simp at hy;subst hy
  cases h with | p _ _ h=>exact .p _ _ (h.weaker fun b hb=>absurd hb BD)
 ·simp at hy;subst hy;generalize v=u at h
  cases h with
  | fn _ _ _ a e hs ht _ _=>exact .fn _ [] [] a e hs ht (fun j c hj=>by simp at hj) (fun j c hj=>by simp at hj)
 ·rename_i o off len tot
  split at hy
  ·rename_i S xs ho
   split at hy
   ·rename_i hc;simp at hy;subst hy;exact .p _ _ (AJ _ (fun b _ hb=>BD hb) (fun b _ hs=>⟨BD,hs,rfl⟩) hr (Z7 ho Zb) hc.1 hc.2 h)
   ·cases hy
  ·cases hy
 ·cases hy
theorem P4 {H} : ∀ {l l':List V},vws H l=some l'->l'.length=l.length/\ ∀(j:Nat) (y:V),l'[j]? =some y-> ∃x,l[j]? =some x/\vw H x=some y
 | [],l',h=>by simp [vws] at h;grind
 | x::l,l',h=>by
  simp only [vws] at h
  split at h
  ·rename_i y ys h1 h2;simp at h;subst h;obtain ⟨e,hg⟩:=P4 h2;refine ⟨by simp [e],fun j z hj=> ?_⟩
   cases j with
   | zero=>simp at hj;subst hj;exact ⟨x,Zb,h1⟩
   | succ j=>obtain ⟨q,q1,q2⟩:=hg j z (by simpa using hj);exact ⟨q,by simpa using q1,q2⟩
  ·cases h
theorem Good.lift {F H ι w H1 ι1 w'} (hr:Rel F H ι w) (g:Good Ai [] [] w H1 ι1 w') (h1: ∀(o:Nat) (ob:Obj),H1[o]? =some ob-> ∃S xs,ob= .elems S xs/\CW xs=true):Good (Own F ι) [] [] w H1 ι1 w':=by
 have hnew: ∀b,some b∈ι1-> ¬b<w.heap.size:=fun b hb hlt=>g.own b hlt Zb hb
 have hold: ∀b,Own F ι b->b<w.heap.size:=fun b hb=>by
  rcases hb with hb | hb
  ·exact hr.fin b hb
  ·obtain ⟨i,hi⟩:=ZL.1 hb;exact (hr.avo i b hi).2
 refine Good.up hr.env.fresh ⟨⟨g.rel.len,fun b hb=>by have:=hold b hb;have:=g.size;omega,g.rel.inj,fun i b hi=> ?_,fun o cs ho=> ?_,fun o S xs ho=> ?_,fun o es ho=>(by grind),fun o T E r bs ho=>(by grind)⟩,g.os,g.tape,g.output,g.shape,g.size,g.keep,g.own,g.hx⟩
 ·refine ⟨fun hb=>hnew b (Xq hi) (hold b hb),(g.rel.avo i b hi).2⟩
 ·grind
 ·rcases g.rel.elm o S xs ho with e | ⟨b,c,t,cap,e1,e2,e3,e4,e5,e6,e7⟩
  ·exact .inl e
  ·refine .inr ⟨b,c,t,cap,e1,e2,e3,e4,e5,e6,fun i x j y hi hj=> ?_⟩;obtain ⟨S',xs',e,hf⟩:=h1 o _ ho;simp at e;obtain ⟨rfl,rfl⟩:=e;have hx:=KN hf i x hi;refine (e7 i x j y hi hj).anywhere ?_
   cases x<;>simp only [PV.cells] at hj
   case agg cs=>grind [KN,NE]
   all_goals (cases j with
    | zero=>simp at hj;subst hj;exact hx
    | succ j=>simp at hj)
theorem EQ {w:World} (he:Env Ai [] w):Rel Ai [] [] w:=⟨⟨rfl,fun b hb=>hb.elim,fun i j b hi=>by simp at hi,fun i b hi=>by simp at hi,fun o cs ho=>by simp at ho,fun o S xs ho=>by simp at ho,fun o es ho=>by simp at ho,fun o T E r bs ho=>by simp at ho⟩,he⟩
theorem ACalls.viewF {P g args args'} {S n:Nat} {xs:List PV} {H:List Obj} {K:V->List Obj->Prop} (h:ACalls P g args' [] fun x H'=>x= .sl 0 0 n n/\H'= [.elems S xs]) (hv:vws H args=some args') (hy:CW xs=true) (k:K (.sl H.length 0 n n) (H++ [.elems S xs])):ACalls P g args H K:=by
 refine ⟨h.1,fun F ι w vs hr hvs=> ?_⟩;obtain ⟨e,hg⟩:=P4 hv;refine (h.2 Ai [] w vs (EQ hr.env.noth) ⟨by rw [hvs.1,e],fun j c hj=> ?_⟩).mono ?_
 ·obtain ⟨x,h1,h2⟩:=hg j c hj;exact ZiT hr (hvs.2 j x h1) h2
 ·rintro e w' ⟨x,H',ι',v,rfl,⟨rfl,rfl⟩,gd,rv⟩
  have gl:=gd.lift hr (fun o ob ho=>by
   grind)
  have g2:=gl.behind hr
  have rv2:RV (Own F ι) [.elems S xs] ι' w' (.sl 0 0 n n) v:=by
   cases rv with
   | slNil _ S a h3 h2=>exact .slNil _ S a h3 h2
   | sl _ _ _ _ b S cap t xs c h1 h2 ht hw hcap hl hlen hm=>exact .sl _ _ _ _ b S cap t xs c h1 h2 ht hw hcap hl hlen hm
   | slD _ _ _ _ _ h1=>simp at h1
   | slS _ _ _ _ _ S xs h1 hne=>exact .slS _ _ _ _ _ S xs h1 hne
   | slC _ _ _ _ _ _ h1=>simp at h1
  exact ⟨_,_,_,v,rfl,by simpa [shV,shO] using k,g2,by simpa [shV] using rv2.sh hr.len⟩
def rd1 (H:List Obj):V->Option PV
 | .p x=>some x
 | .sl o off len tot=>match oat H o with
  | .elems _ xs=>if xs.length=tot/\off+len<=tot then some (.list false ((xs.take (off+len)).drop off)) else none
  | _=>none
 | _=>none
def rds (H:List Obj):List V->Option (List PV)
 | []=>some []
 | x::l=>match rd1 H x,rds H l with | some y,some ys=>some (y::ys) | _,_=>none
def rd (H:List Obj):V->Option PV
 | .agg cs=>(rds H cs).map .agg
 | x=>rd1 H x
attribute [go_sem] Option.map_none
end Go.AM
namespace Go.Proofs.YtiigdaohjanidaaGreatDoor.K
open Go Go.AM
def Val (n:Nat) (be:List (Int×Int)):Prop:= ∀p∈be,0<=p.1/\p.1<n/\0<=p.2/\p.2<n
theorem Fa (a b:Nat):(pw a).testBit b=decide (a=b):=by grind [pw]
def tot (l:List Nat):Nat:=l.foldr (· + ·) 0
theorem uD {s b:Nat} (h:s.testBit b=false) (j:Nat):(s+pw b).testBit j=(s.testBit j||decide (b=j)):=by
 have e1:s=2^(b+1)*(s / 2^(b+1))+s%2^(b+1):=(Nat.div_add_mod _ _).symm;have e2:s%2^(b+1)<2^(b+1):=UR _ (Nat.two_pow_pos _)
 have e3:s%2^(b+1)<2^b:=by
  rw [Et] at h;simp at h
  have h1:s%2^(b+1)=s%2^b+2^b*(s / 2^b%2):=by rw [Nat.pow_succ,Nat.mod_mul]
  rw [h1,h,Nat.mul_zero,Vu];omega
 generalize s / 2^(b+1)=q at e1;generalize s%2^(b+1)=r at e1 e2 e3
 have hp:2^(b+1)=2^b+2^b:=Za
 have e4:s+pw b=2^(b+1)*q+(2^b*1+r):=by grind [pw]
 rw [e4,Nat.testBit_two_pow_mul_add _ Za,e1,Nat.testBit_two_pow_mul_add _ e2]
 by_cases hj:j<b+1
 ·simp only [hj,if_true];rw [Nat.testBit_two_pow_mul_add _ e3]
  grind
 grind
def Vj (p:Nat->Bool):Nat->Nat
 | 0=>0
 | k+1=>if p k then Vj p k+pw k else Vj p k
theorem BW (p:Nat->Bool): ∀k,Vj p k<pw k
 | 0=>by simp [Vj,pw]
 | k+1=>by
  have:=BW p k
  grind [BL,Vj]
theorem CL (p:Nat->Bool): ∀k j,(Vj p k).testBit j=(decide (j<k)&&p j)
 | 0,j=>by simp [Vj]
 | k+1,j=>by
  have hb:(Vj p k).testBit k=false:=KR (BW p k);simp only [Vj]
  split
  ·rename_i hp;rw [uD hb,CL p k j]
   grind
  ·rename_i hp;rw [CL p k j]
   grind
def cls (fr s:Nat) (p:Int×Int):Prop:=(p.1.toNat=fr\/s.testBit p.1.toNat=true)->s.testBit p.2.toNat=true
end Go.Proofs.YtiigdaohjanidaaGreatDoor.K
