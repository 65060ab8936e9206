/- Declarations that the closing texts need, part 4: joined by tools/slim.py. -/
import Derived.Test.YtiigdaohjanidaaGreatDoorP3
set_option linter.unusedVariables false
set_option linter.unusedSimpArgs false
universe u
namespace Go.AM
open Go.RowKit
structure Tk {α:Sort u} (a:α):Type where
def ZB {α:Sort u} (a:α) (_:Tk a):α:=a
@[go_sem] theorem ZeW {α β:Type} {f:α->β} {t x} :ZB f t x=f x:=Zl rfl rfl
@[go_sem ↓] theorem ZeX {α β:Type} {f:α->β->Prop} {t x y} :ZB f t x y=f x y:=Zl rfl rfl
@[go_sem ↓] theorem ZeY {α β γ:Type} {f:α->β->γ->Prop} {t x y z} :ZB f t x y z=f x y z:=Zl rfl rfl
def DX (x:Option V) (K:V->Prop):Prop:=match x with | some v=>K v | none=>False
def A0 (x:Option (V×List Obj)) (K:V->List Obj->Prop):Prop:=match x with | some (v,H)=>K v H | none=>False
def bst (x:V) (K:Bool->Prop):Prop:=match x with | .p (.bool b)=>K b | _=>False
def hst (x:Option (List Obj)) (K:List Obj->Prop):Prop:=match x with | some H=>K H | none=>False
@[go_sem ↓, go_sem] theorem ZjQ {v K} :DX (some v) K=K v:=Zl rfl rfl
@[go_sem ↓, go_sem] theorem Zjv {v H K} :A0 (some (v,H)) K=K v H:=Zl rfl rfl
@[go_sem ↓, go_sem] theorem Zim {H K} :hst (some H) K=K H:=Zl rfl rfl
@[congr] theorem Zfe {x x' K} (h:x=x'):DX x K=DX x' K:=by rw [h]
@[congr] theorem Ze7 {x x' K} (h:x=x'):A0 x K=A0 x' K:=by rw [h]
@[congr] theorem ZeZ {x x' K} (h:x=x'):hst x K=hst x' K:=by rw [h]
def OX (fr:List V):List V:=fr
@[go_sem] theorem ZnQ {fr} :OX fr=fr:=Zl rfl rfl
section code
variable {cuts : List Nat} {P : Program} {fr : List V} {H : List Obj} {Q : Exit -> List V -> List Obj -> Prop}
@[go_sem ↓] theorem ZeM : Jj cuts P .skip fr H Q=Q .normal fr H:=Zl rfl rfl
@[go_sem ↓] theorem vM {id} {l:List Oper} :Jj cuts P (.region id l.toArray false) fr H Q=YF P (l.map (·.dst)) l (OX fr) H (ZB (Q .normal) ⟨⟩):=by rfl
@[go_sem ↓] theorem yM {id ops} :Jj cuts P (.region id ops true) fr H Q=AWP P (.region id (ZB ops ⟨⟩) true) fr H (ZB Q ⟨⟩):=by rfl
@[go_sem ↓] theorem ZhK {x y} :Jj [] P (.seq x y) fr H Q=Jj [] P x fr H (Q7 (fun fr H=>Jj [] P y fr H Q) Q):=by
 grind [Jj]
def lW (b:Bool) (A B:Prop):Prop:=if b then A else B
def Mt (cuts:List Nat):Option Nat->Bool
 | some i=>cuts.contains i
 | none=>false
@[go_sem ↓] theorem ZeL {k x y} :Jj (k::cuts) P (.seq x y) fr H Q=lW (Mt (k::cuts) (MT x)) (ZB (AWP P (.seq (ZB x ⟨⟩) (ZB y ⟨⟩)) fr H (ZB Q ⟨⟩)) ⟨⟩) (ZB (Jj (k::cuts) P x fr H (Q7 (fun fr H=>Jj (k::cuts) P y fr H Q) Q)) ⟨⟩):=by
 rfl
@[go_sem ↓, go_sem] theorem Zfg {A B:Prop} {t} :lW true (ZB A t) B=A:=by rfl
@[go_sem ↓, go_sem] theorem Zdy {A B:Prop} {t} :lW false A (ZB B t)=B:=by rfl
theorem Pz {b b' A B} (h:b=b'):lW b A B=lW b' A B:=by rw [h]
@[go_sem ↓] theorem Zac {id ops d} :MT (.region id ops d)=some id:=Zl rfl rfl
@[go_sem ↓] theorem Zl4 {x y} :MT (.seq x y)=MT x:=Zl rfl rfl
@[go_sem ↓] theorem ZeV {id c} :MT (.block id c)=MT c:=Zl rfl rfl
@[go_sem ↓] theorem Zii {c x y} :MT (.cond c x y)=none:=Zl rfl rfl
@[go_sem ↓] theorem Zik {c} :MT (.loop c)=none:=Zl rfl rfl
@[go_sem] theorem zK : Mt cuts none=false:=Zl rfl rfl
@[go_sem] theorem ZeR {i} :Mt [] (some i)=false:=Zl rfl rfl
@[go_sem] theorem zJ {k i} :Mt (k::cuts) (some i)=(decide (i=k)||Mt cuts (some i)):=by rfl
@[go_sem ↓] theorem ZeH {c x y} :Jj cuts P (.cond c x y) fr H Q=V2 (ev fr c) (ZB (Jj cuts P x fr H Q) ⟨⟩) (ZB (Jj cuts P y fr H Q) ⟨⟩):=Zl rfl rfl
@[go_sem ↓] theorem yL {id c} :Jj cuts P (.block id c) fr H Q=Jj cuts P c fr H (UJ id Q):=Zl rfl rfl
@[go_sem ↓] theorem ZeI {id} :Jj cuts P (.exit id) fr H Q=Q (.exit id) fr H:=Zl rfl rfl
@[go_sem ↓] theorem ZhJ : Jj cuts P .ret fr H Q=Q .ret fr H:=Zl rfl rfl
@[go_sem ↓] theorem ZeK {c} :Jj cuts P (.loop c) fr H Q=AWP P (.loop (ZB c ⟨⟩)) fr H (ZB Q ⟨⟩):=Zl rfl rfl
@[go_sem ↓] theorem ZeJ {c t} :Jj cuts P (ZB c t) fr H Q=Jj cuts P c fr H Q:=Zl rfl rfl
theorem SO {c fr' H'} (h:fr=fr') (h2:H=H'):Jj cuts P c fr H Q=Jj cuts P c fr' H' Q:=by rw [h,h2]
theorem Sw {c fr' H'} (h:fr=fr') (h2:H=H'):AWP P c fr H Q=AWP P c fr' H' Q:=by rw [h,h2]
@[go_sem ↓] theorem tG {A:List V->List Obj->Prop} :Q7 A Q .normal fr H=A fr H:=Zl rfl rfl
@[go_sem ↓] theorem ZdF {A:List V->List Obj->Prop} {id} :Q7 A Q (.exit id) fr H=Q (.exit id) fr H:=Zl rfl rfl
@[go_sem ↓] theorem Zf5 {A:List V->List Obj->Prop} :Q7 A Q .ret fr H=Q .ret fr H:=Zl rfl rfl
@[go_sem ↓] theorem nI {id} :UJ id Q .normal fr H=Q .normal fr H:=Zl rfl rfl
@[go_sem ↓] theorem yO {id} :UJ id Q .ret fr H=Q .ret fr H:=Zl rfl rfl
@[go_sem ↓] theorem vP {id id'} :UJ id Q (.exit id') fr H=if id'=id then Q .normal fr H else Q (.exit id') fr H:=Zl rfl rfl
theorem NX {A:List V->List Obj->Prop} {e fr' H'} (h:fr=fr') (h2:H=H'):Q7 A Q e fr H=Q7 A Q e fr' H':=by rw [h,h2]
theorem ID {id e fr' H'} (h:fr=fr') (h2:H=H'):UJ id Q e fr H=UJ id Q e fr' H':=by rw [h,h2]
@[go_sem ↓] theorem wQ {rs} {Q:V->List Obj->Prop} :Kb P rs Q .normal fr H=A0 ((YI P fr H rs).map fun xs=>(VB xs,H)) (ZB Q ⟨⟩):=by
 simp only [Kb,ZB];grind [A0]
@[go_sem ↓] theorem ZjV {rs} {Q:V->List Obj->Prop} :Kb P rs Q .ret fr H=A0 ((YI P fr H rs).map fun xs=>(VB xs,H)) (ZB Q ⟨⟩):=by
 simp only [Kb,ZB];grind [A0]
theorem Pu {rs e fr' H'} {Q:V->List Obj->Prop} (h:fr=fr') (h2:H=H'):Kb P rs Q e fr H=Kb P rs Q e fr' H':=by rw [h,h2]
@[go_sem] theorem Zds : YI P fr H []=some []:=Zl rfl rfl
@[go_sem] theorem Zdt {t l} :YI P fr H (.tmp t::l)=(YI P fr H l).map (gt fr t:: ·):=by
 simp only [YI,aB];cases YI P fr H l<;>rfl
@[go_sem] theorem wO {a t l} :YI P fr H (.cell a t::l)=(QJ P H t (gt fr a)).bind fun x=>(YI P fr H l).map (x:: ·):=by
 simp only [YI,aB];cases QJ P H t (gt fr a)<;>cases YI P fr H l<;>rfl
@[go_sem] theorem Zdu {x} :VB [x]=x:=Zl rfl rfl
@[go_sem] theorem wP : VB []= .tup []:=Zl rfl rfl
@[go_sem] theorem Ps {x y l} :VB (x::y::l)= .tup (x::y::l):=Zl rfl rfl
end code
attribute [congr] Pz SO Sw NX ID Pu
@[go_sem] theorem Zl3 {x:V} {l} :gt (x::l) 0=x:=Zl rfl rfl
@[go_sem] theorem Zl2 {x:V} {l n} :gt (x::l) (n+1)=gt l n:=Zl rfl rfl
@[go_sem] theorem ZnO {n} :gt [] n= .junk:=Zl rfl rfl
@[go_sem] theorem Zmp {x v:V} {l} :pt (x::l) 0 v=v::l:=Zl rfl rfl
@[go_sem] theorem Zmo {x v:V} {l n} :pt (x::l) (n+1) v=x::pt l n v:=Zl rfl rfl
@[go_sem] theorem ZjS {fr d v} :Wj fr (some d) v=pt fr d v:=Zl rfl rfl
@[go_sem] theorem ZjR {fr v} :Wj fr none v=fr:=Zl rfl rfl
@[go_sem] theorem Zjz {x:Obj} {l} :oat (x::l) 0=x:=Zl rfl rfl
@[go_sem] theorem Zjy {x:Obj} {l n} :oat (x::l) (n+1)=oat l n:=Zl rfl rfl
@[go_sem] theorem ZjJ {x v:Obj} {l} :FD (x::l) 0 v=v::l:=Zl rfl rfl
@[go_sem] theorem ZjI {x v:Obj} {l n} :FD (x::l) (n+1) v=x::FD l n v:=Zl rfl rfl
@[go_sem] theorem ZlQ {fr t} :evx fr (.tmp t)=gt fr t:=Zl rfl rfl
@[go_sem] theorem zU {fr g} :evx fr (.global g)=gU g:=Zl rfl rfl
@[go_sem] theorem ZnD {fr t} :ev fr (.tmp t)=gt fr t:=Zl rfl rfl
@[go_sem] theorem ZlN {fr f} :ev fr (.func f)= .fn (.func f) [] []:=Zl rfl rfl
@[go_sem] theorem ZnB {fr k n} :ev fr (.const (.int k n))= .p (.int k n):=Zl rfl rfl
@[go_sem] theorem ZlM {fr b} :ev fr (.const (.bool b))= .p (.bool b):=Zl rfl rfl
@[go_sem] theorem ZnC {fr s} :ev fr (.const (.string s))= .p (.str s.data.toList):=Zl rfl rfl
@[go_sem] theorem ZlP {fr} :ev fr (.const (.slice none 0 0))= .p (.list true []):=Zl rfl rfl
@[go_sem] theorem ZlO {fr} :ev fr (.const (.pointer none))= .p .nilp:=Zl rfl rfl
@[go_sem] theorem ZnA {fr l} :ev fr (.const (.agg (List.toArray l)))=match zM l with | some xs=> .p (.agg xs) | none=> .junk:=Zl rfl rfl
@[go_sem] theorem Zie {fr d} {l:List (Option Nat)} :CV fr (some d::l) 0=gt fr d:=by simp [CV]
@[go_sem] theorem Zid {fr o n} {l:List (Option Nat)} :CV fr (o::l) (n+1)=CV fr l n:=by simp [CV]
section ops
variable {P : Program} {fr : List V} {H : List Obj} {ds : List (Option Nat)} {K : List V -> List Obj -> Prop} {r : List Oper} {d : Option Nat} {t : TypeId} {ps : String} {af : Array Edge} {g : Option (Nat × Bool)} {k : V -> List Obj -> Prop}
theorem Oo {l fr' H'} (h:fr=fr') (h2:H=H'):YF P ds l fr H K=YF P ds l fr' H' K:=by rw [h,h2]
theorem L4 {o fr' H'} (h:fr=fr') (h2:H=H'):Zx P o fr H k=Zx P o fr' H' k:=by rw [h,h2]
@[go_sem ↓] theorem Zhz : YF P ds [] fr H K=K fr H:=Zl rfl rfl
@[go_sem] theorem Zes {op} :YF P ds (⟨d,op,t,ps,af,none⟩::r) fr H K=Zx P ⟨d,op,t,ps,af,none⟩ fr H (ZB (fun x H'=>YF P ds r (Wj fr d x) H' K) ⟨⟩):=Zl rfl rfl
@[go_sem] theorem xP {op j b} :YF P ds (⟨d,op,t,ps,af,some (j,b)⟩::r) fr H K=XH (CV fr ds j) b (ZB (Zx P ⟨d,op,t,ps,af,none⟩ fr H (ZB (fun x H'=>YF P ds r (Wj fr d x) H' K) ⟨⟩)) ⟨⟩) (ZB (YF P ds r (Wj fr d (.tup [])) H K) ⟨⟩):=by
 rfl
theorem XS {op:Op} (h:YL op=none) (h2:WN P op fr H=none):Zx P ⟨d,op,t,ps,af,g⟩ fr H k=DX (Xc P op fr H) fun x=>k x H:=by
 simp only [Zx,h,Io,h2]
 all_goals (cases Xc P op fr H<;>rfl)
theorem SM {op:Op} (h:YL op=none) (h2:Xc P op fr H=none):Zx P ⟨d,op,t,ps,af,g⟩ fr H k=A0 (WN P op fr H) k:=by
 grind [Zx,Io,A0]
@[go_sem ↓] theorem yF {x} :Zx P ⟨d,.move x,t,ps,af,g⟩ fr H k=k (ev fr x) H:=by rfl
@[go_sem ↓] theorem oQ {x} :Zx P ⟨d,.assign x,t,ps,af,g⟩ fr H k=k (ev fr x) H:=by rfl
def vif (b:Bool) (x y:V):V:=if b then x else y
@[go_sem] theorem Zk2 {x y} :vif true x y=x:=Zl rfl rfl
@[go_sem] theorem Zf6 {x y} :vif false x y=y:=Zl rfl rfl
@[go_sem] theorem Zk1 {b x y} :vif b (.p (.bool x)) (.p (.bool y))= .p (.bool (if b then x else y)):=by cases b<;>rfl
@[go_sem] theorem ZhE {b} :xV (.p (.bool b))=some b:=Zl rfl rfl
@[go_sem ↓] theorem yH {c x y} :Zx P ⟨d,.pick c x y,t,ps,af,g⟩ fr H k=DX ((xV (ev fr c)).map fun b=>vif b (ev fr x) (ev fr y)) (ZB (fun v=>k v H) ⟨⟩):=by
 rw [XS rfl rfl];simp only [Xc,Yl]
 cases xV (ev fr c)<;>rfl
@[go_sem ↓] theorem yE {u x} :Zx P ⟨d,.load u x,t,ps,af,g⟩ fr H k=DX (QJ P H u (ev fr x)) (ZB (fun v=>k v H) ⟨⟩):=by rw [XS rfl rfl];rfl
@[go_sem ↓] theorem dI {x} :Zx P ⟨d,.nilCheck x,t,ps,af,g⟩ fr H k=DX (if We H (ev fr x)||iE (ev fr x) then some (ev fr x) else none) (ZB (fun v=>k v H) ⟨⟩):=by rw [XS rfl rfl];rfl
@[go_sem ↓] theorem ZeA {op u x y u2} :Zx P ⟨d,.binOp op u x y u2,t,ps,af,g⟩ fr H k=DX ((Yg P op u (ev fr x) (ev fr y)).map .p) (ZB (fun v=>k v H) ⟨⟩):=by rw [XS rfl rfl];rfl
@[go_sem ↓] theorem ZhH {op u x} :Zx P ⟨d,.unOp op u x,t,ps,af,g⟩ fr H k=DX ((aun op (ev fr x)).map .p) (ZB (fun v=>k v H) ⟨⟩):=by rw [XS rfl rfl];rfl
def jP (x y:Option PV):Option PV:=match x with | some z=>some z | none=>y
@[go_sem] theorem Zda {z y} :jP (some z) y=some z:=Zl rfl rfl
@[go_sem] theorem Zc9 {y} :jP none y=y:=Zl rfl rfl
@[go_sem ↓] theorem yD {s u x} :Zx P ⟨d,.convert s u x,t,ps,af,g⟩ fr H k=DX ((jP (CX P H s u (ev fr x)) (LN P s u (ev fr x))).map .p) (ZB (fun v=>k v H) ⟨⟩):=by
 rw [XS rfl rfl];simp only [Xc,Yl]
 cases CX P H s u (ev fr x)<;>rfl
@[go_sem ↓] theorem dH {f cs es} :Zx P ⟨d,.makeFunc f (List.toArray cs) (List.toArray es),t,ps,af,g⟩ fr H k=k (.fn f (cs.map (ev fr)) (es.map (ev fr))) H:=by rfl
@[go_sem ↓] theorem vK {u x lo hi mx} :Zx P ⟨d,.slice u x lo hi mx,t,ps,af,g⟩ fr H k=DX (VM P H u fr (ev fr x) lo hi mx) (ZB (fun v=>k v H) ⟨⟩):=by rw [XS rfl rfl];rfl
@[go_sem ↓] theorem bP {s x f} :Zx P ⟨d,.fieldAddr s x f,t,ps,af,g⟩ fr H k=DX (Je P H s f (ev fr x)) (ZB (fun v=>k v H) ⟨⟩):=by rw [XS rfl rfl];rfl
@[go_sem ↓] theorem bQ {u x i} :Zx P ⟨d,.indexAddr u x i,t,ps,af,g⟩ fr H k=DX (Qn P H u (evx fr x) (ev fr i)) (ZB (fun v=>k v H) ⟨⟩):=by rw [XS rfl rfl];rfl
@[go_sem ↓] theorem vJ {u x i} :Zx P ⟨d,.index u x i,t,ps,af,g⟩ fr H k=DX (LR P u (ev fr x) (ev fr i)) (ZB (fun v=>k v H) ⟨⟩):=by rw [XS rfl rfl];rfl
def axt (x:V) (i:Nat):Option V:=match x with | .tup vs=>vs[i]? | _=>none
@[go_sem] theorem Zlv {vs i} :axt (.tup vs) i=vs[i]? :=Zl rfl rfl
@[go_sem ↓] theorem nG {x i} :Zx P ⟨d,.extract x i,t,ps,af,g⟩ fr H k=DX (axt (ev fr x) i) (ZB (fun v=>k v H) ⟨⟩):=by
 rw [XS rfl rfl]
 rfl
@[go_sem ↓] theorem vI {u l} :Zx P ⟨d,.build u (List.toArray l),t,ps,af,g⟩ fr H k=DX (EE P H u (l.map fun x=>(x.1,ev fr x.2))) (ZB (fun v=>k v H) ⟨⟩):=by rw [XS rfl rfl];rfl
@[go_sem ↓] theorem ZeC {x u} :Zx P ⟨d,.call ⟨.builtin .len,#[x],#[u]⟩,t,ps,af,g⟩ fr H k=DX ((cW P H u (ev fr x)).map .p) (ZB (fun v=>k v H) ⟨⟩):=by rw [XS rfl rfl];rfl
@[go_sem ↓] theorem ZeD {x y us} :Zx P ⟨d,.call ⟨.builtin .max,#[x,y],us⟩,t,ps,af,g⟩ fr H k=DX ((Ol false [ev fr x,ev fr y]).map .p) (ZB (fun v=>k v H) ⟨⟩):=by
 rw [XS rfl rfl];rfl
@[go_sem ↓] theorem vH {u} :Zx P ⟨d,.alloc u,t,ps,af,g⟩ fr H k=A0 ((XB P u).map fun zs=>(.ptr H.length 0,H++ [.cells (zs.map .p)])) (ZB k ⟨⟩):=by rfl
@[go_sem ↓] theorem ZeB {u x} :Zx P ⟨d,.box u x,t,ps,af,g⟩ fr H k=A0 ((vc H (ev fr x)).map fun cs=>(.ptr H.length 0,H++ [.cells cs])) (ZB k ⟨⟩):=by rfl
def yJ (H:List Obj) (n:Option Nat) (a:V) (cs:Option (List V)):Option (List Obj):=n.bind fun n=>cs.bind fun cs=>A8 H n a cs
@[go_sem] theorem ZeF {n a cs} :yJ H (some n) a (some cs)=A8 H n a cs:=Zl rfl rfl
@[go_sem ↓] theorem vL {u x y} :Zx P ⟨d,.store u x y,t,ps,af,g⟩ fr H k=hst (yJ H (YU P u) (ev fr x) (vc H (ev fr y))) (ZB (k .junk) ⟨⟩):=by
 rw [SM rfl rfl];simp only [WN,yJ]
 cases YU P u<;>cases vc H (ev fr y)<;>simp [hst,A0,ZB]
 grind
@[go_sem ↓] theorem SL {u n l} :Zx P ⟨d,.buildSlice u n (List.toArray l),t,ps,af,g⟩ fr H k=A0 (WN P (.buildSlice u n (List.toArray l)) fr H) (ZB k ⟨⟩):=by rfl
@[go_sem ↓] theorem nH {u} :Zx P ⟨d,.makeMap u none,t,ps,af,g⟩ fr H k=k (.mp H.length) (H++ [.map []]):=by rfl
@[go_sem ↓] theorem oS {u x y ok} :Zx P ⟨d,.lookup u x y ok,t,ps,af,g⟩ fr H k=A0 (BC P H u (ev fr x) (ev fr y) ok) (ZB k ⟨⟩):=by rfl
@[go_sem ↓] theorem yG {u x y z} :Zx P ⟨d,.mapUpdate u x y z,t,ps,af,g⟩ fr H k=A0 (DE P H u (ev fr x) (ev fr y) (ev fr z)) (ZB k ⟨⟩):=by rfl
@[go_sem ↓] theorem bR {u x y} :Zx P ⟨d,.makeSlice u x y,t,ps,af,g⟩ fr H k=A0 (WN P (.makeSlice u x y) fr H) (ZB k ⟨⟩):=by rfl
@[go_sem ↓] theorem oP {x y u u2} :Zx P ⟨d,.call ⟨.builtin .append,#[x,y],#[u,u2]⟩,t,ps,af,g⟩ fr H k=A0 (VJ P H u u2 (ev fr x) (ev fr y)) (ZB k ⟨⟩):=by rfl
@[go_sem ↓] theorem yC {f azs ts} :Zx P ⟨d,.call ⟨.value f,List.toArray azs,ts⟩,t,ps,af,g⟩ fr H k=AV P (ev fr f) (azs.map (ev fr)) H (ZB k ⟨⟩):=Zl rfl rfl
@[go_sem ↓] theorem Zho {f fs cs azs} :AV P (.fn (.func f) fs cs) azs H k=ACalls P f (fs++azs++cs) H k:=Zl rfl rfl
@[go_sem ↓] theorem Zd4 {f azs} :AV P (.p (.fn f)) azs H k=ACalls P f azs H k:=Zl rfl rfl
theorem LL {f f' azs as'} (h:f=f') (h2:azs=as'):AV P f azs H k=AV P f' as' H k:=by rw [h,h2]
theorem Ic {f azs as' H'} (h2:azs=as') (h3:H=H'):ACalls P f azs H k=ACalls P f as' H' k:=by rw [h2,h3]
theorem LM {x x' A B} (h:x=x'):V2 x A B=V2 x' A B:=by rw [h]
theorem Ii {x x' b A B} (h:x=x'):XH x b A B=XH x' b A B:=by rw [h]
@[go_sem ↓, go_sem] theorem xD {A:Prop} {t B'} :V2 (.p (.bool true)) (ZB A t) B'=A:=by simp [V2,ZB]
@[go_sem ↓, go_sem] theorem uV {B:Prop} {t B'} :V2 (.p (.bool false)) B' (ZB B t)=B:=by simp [V2,ZB]
@[go_sem ↓, go_sem] theorem Zee {A:Prop} {t B} :XH (.p (.bool true)) true (ZB A t) B=A:=by simp [XH,ZB]
@[go_sem ↓, go_sem] theorem Zed {B:Prop} {t A} :XH (.p (.bool true)) false A (ZB B t)=B:=by simp [XH,ZB]
@[go_sem ↓, go_sem] theorem Zec {B:Prop} {t A} :XH (.p (.bool false)) true A (ZB B t)=B:=by simp [XH,ZB]
@[go_sem ↓, go_sem] theorem Zeb {A:Prop} {t B} :XH (.p (.bool false)) false (ZB A t) B=A:=by simp [XH,ZB]
@[go_sem ↓, go_sem] theorem uX {b} {B:Prop} {t A} :XH (.tup []) b A (ZB B t)=B:=by rfl
theorem Jd {c:Bool} {A B:Prop} {t t'} (h1:c=true->A) (h2:c=false->B):V2 (.p (.bool c)) (ZB A t) (ZB B t'):=⟨h1,h2⟩
theorem V3 {c:Bool} {A B:Prop} {t t'} (h1:c=true->A) (h2:c=false->B):XH (.p (.bool c)) true (ZB A t) (ZB B t'):=⟨h1,fun h=>h2 (by simpa using h)⟩
theorem UF {c:Bool} {A B:Prop} {t t'} (h1:c=true->B) (h2:c=false->A):XH (.p (.bool c)) false (ZB A t) (ZB B t'):=⟨h2,fun h=>h1 (by simpa using h)⟩
theorem Zc {P Q:Prop} (h:Q) (e:Q->P:=by intro h;simp (disch:=omega) only [go_sem,seval];exact h):P:=e h
class Dc (c:Bool) (p q:outParam Prop):Prop where
 t:c=true->p
 f:c=false->q
instance dcD {p : Prop} [Decidable p] : Dc (decide p) p (¬p) := ⟨Cf, of_decide_eq_false⟩
instance (priority := low) dcB {c : Bool} : Dc c (c = true) (c = false) := ⟨id, id⟩
theorem cD {c:Bool} {A B p q:Prop} {t t'} [d:Dc c p q] (h1:p->A) (h2:q->B):V2 (.p (.bool c)) (ZB A t) (ZB B t'):=Jd (fun h=>h1 (d.t h)) (fun h=>h2 (d.f h))
theorem gT {c:Bool} {A B p q:Prop} {t t'} [d:Dc c p q] (h1:p->A) (h2:q->B):XH (.p (.bool c)) true (ZB A t) (ZB B t'):=V3 (fun h=>h1 (d.t h)) (fun h=>h2 (d.f h))
theorem gF {c:Bool} {A B p q:Prop} {t t'} [d:Dc c p q] (h1:p->B) (h2:q->A):XH (.p (.bool c)) false (ZB A t) (ZB B t'):=UF (fun h=>h1 (d.t h)) (fun h=>h2 (d.f h))
@[go_sem] theorem Zmk {p:Prop} [Decidable p]:(!decide p)=decide (¬p):=Zb
end ops
attribute [congr] Oo L4 LL Ic LM Ii
section vals
variable {P : Program} {H : List Obj} {k : IntKind} {t u : TypeId}
@[go_sem] theorem Zhc {a b} :Yg P .add t (.p (.int k a)) (.p (.int k b))=some (.int k (k.wrap (a+b))):=by simp [Yg,Qw]
@[go_sem] theorem Zhn {a b} :Yg P .sub t (.p (.int k a)) (.p (.int k b))=some (.int k (k.wrap (a-b))):=by simp [Yg,Qw]
@[go_sem] theorem cI {a b} :Yg P .mul t (.p (.int k a)) (.p (.int k b))=some (.int k (k.wrap (a*b))):=by simp [Yg,Qw]
@[go_sem] theorem cK {a b} (h:b≠0):Yg P .quo t (.p (.int k a)) (.p (.int k b))=some (.int k (k.wrap (a.tdiv b))):=by simp [Yg,Qw,h]
@[go_sem] theorem Zhl {a b} (h:b≠0):Yg P .rem t (.p (.int k a)) (.p (.int k b))=some (.int k (a.tmod b)):=by simp [Yg,Qw,h]
@[go_sem] theorem LJ {a b} :Yg P .and t (.p (.int k a)) (.p (.int k b))=some (.int k (k.wrap ((BitVec.ofInt k.bits a&&&BitVec.ofInt k.bits b).toNat:Int))):=by simp [Yg,Qw]
@[go_sem] theorem PU {a b} :Yg P .or t (.p (.int k a)) (.p (.int k b))=some (.int k (k.wrap ((BitVec.ofInt k.bits a|||BitVec.ofInt k.bits b).toNat:Int))):=by simp [Yg,Qw]
@[go_sem] theorem LK {a b} :Yg P .andNot t (.p (.int k a)) (.p (.int k b))=some (.int k (k.wrap ((BitVec.ofInt k.bits a&&& ~~~(BitVec.ofInt k.bits b)).toNat:Int))):=by simp [Yg,Qw]
@[go_sem] theorem Zhf {a b} :Yg P .eql t (.p (.int k a)) (.p (.int k b))=some (.bool (decide (a=b))):=by simp [Yg,Qw]
@[go_sem] theorem Zhk {a b} :Yg P .neq t (.p (.int k a)) (.p (.int k b))=some (.bool (decide (¬a=b))):=by simp [Yg,Qw]
@[go_sem] theorem Zhj {a b} :Yg P .lss t (.p (.int k a)) (.p (.int k b))=some (.bool (decide (a<b))):=by simp [Yg,Qw]
@[go_sem] theorem Zhi {a b} :Yg P .leq t (.p (.int k a)) (.p (.int k b))=some (.bool (decide (a<=b))):=by simp [Yg,Qw]
@[go_sem] theorem Zhh {a b} :Yg P .gtr t (.p (.int k a)) (.p (.int k b))=some (.bool (decide (b<a))):=by simp [Yg,Qw]
@[go_sem] theorem Zhg {a b} :Yg P .geq t (.p (.int k a)) (.p (.int k b))=some (.bool (decide (b<=a))):=by simp [Yg,Qw]
@[go_sem] theorem cL {a b k'} (h:0<=b):Yg P .shl t (.p (.int k a)) (.p (.int k' b))=some (.int k (k.wrap (a*2^(min b.toNat k.bits)))):=by grind [Yg,Qw]
@[go_sem] theorem cM {a b k'} (h:0<=b):Yg P .shr t (.p (.int k a)) (.p (.int k' b))=some (.int k (a.fdiv (2^(min b.toNat k.bits)))):=by grind [Yg,Qw]
@[go_sem] theorem Zhm {op a b} :Yg P op t (.p (.str a)) (.p (.str b))=Lr op a b:=Zl rfl rfl
@[go_sem] theorem ZjY {a b} :Lr .eql a b=some (.bool (decide (a=b))):=Zl rfl rfl
@[go_sem] theorem ZjZ {a b} :Lr .neq a b=some (.bool (decide (¬a=b))):=by simp [Lr]
@[go_sem] theorem lT {a b} (h:a.length+b.length<=9223372036854775807):Lr .add a b=some (.str (a++b)):=by simp [Lr,h]
def ZhL (op:BinOp) (u:Option TypeDesc) (a b:Bool):Option PV:=match op,u with
  | .eql,some .bool=>some (.bool (a==b))
  | .neq,some .bool=>some (.bool (!(a==b)))
  | _,_=>none
end vals
attribute [irreducible] DX A0 hst bst
end Go.AM
namespace Go.AM
open Go.RowKit
section vals
variable {P : Program} {H : List Obj} {k : IntKind} {t u : TypeId}
@[go_sem] theorem ZdZ {op a b} :Yg P op t (.p (.bool a)) (.p (.bool b))=ZhL op (P.underlying t) a b:=Zl rfl rfl
@[go_sem] theorem ZhM {a b} :ZhL .neq (some .bool) a b=some (.bool (!(a==b))):=Zl rfl rfl
def zY (g:Bool) (op:BinOp) (r:Option Bool):Option PV:=if g then none else match op with
 | .eql=>r.map .bool
 | .neq=>r.map fun r=> .bool (!r)
 | _=>none
@[go_sem] theorem Zhd {op a b} :Yg P op t (.p (.agg a)) (.p (.agg b))=zY (P.eqGuardType P.depth t) op (Ue P 9 t (.agg a) (.agg b)):=Zl rfl rfl
@[go_sem] theorem Zif {b} :zY false .eql (some b)=some (.bool b):=Zl rfl rfl
@[go_sem] theorem Zig {b} :zY false .neq (some b)=some (.bool (!b)):=Zl rfl rfl
def LO (P:Program) (d:Nat) (t:TypeId) (D:Option TypeDesc) (x y:PV):Option Bool:=match D,x,y with
  | some .bool,.bool a,.bool b=>some (a==b)
  | some (.int _),.int k a,.int k' b=>if k=k' then some (decide (a=b)) else none
  | some .string,.str a,.str b=>some (decide (a=b))
  | some (.struct fs),.agg a,.agg b=>if P.stoodInHeld t then none else Bz (Ue P d) P fs.toList a b
  | some (.array n e),.agg a,.agg b=>match YU P e with | some m=>SA (Ue P d e) P e m n 0 a b | none=>none
  | _,_,_=>none
@[go_sem] theorem Zd8 {d x y} :Ue P (d+1) t x y=LO P d t (P.underlying t) x y:=Zl rfl rfl
@[go_sem] theorem Zd7 {d a b} :LO P d t (some .bool) (.bool a) (.bool b)=some (a==b):=Zl rfl rfl
@[go_sem] theorem Zhq {d k0 a b} :LO P d t (some (.int k0)) (.int k a) (.int k b)=some (decide (a=b)):=by simp [LO]
theorem DD {d fs a b} (h:P.stoodInHeld t=false):LO P d t (some (.struct fs)) (.agg a) (.agg b)=Bz (Ue P d) P fs.toList a b:=by simp [LO,h]
def Nh (x y:Option Bool):Option Bool:=x.bind fun p=>y.map fun q=>p&&q
@[go_sem] theorem Zfb {p q} :Nh (some p) (some q)=some (p&&q):=Zl rfl rfl
def vV (f:PV->PV->Option Bool) (x y:Option PV):Option Bool:=x.bind fun x=>y.bind fun y=>f x y
@[go_sem] theorem Zh7 {f x y} :vV f (some x) (some y)=f x y:=Zl rfl rfl
@[go_sem] theorem LP {f a b} :Bz f P [] a b=some true:=Zl rfl rfl
@[go_sem] theorem GV {f fi r a b} : Bz f P (fi :: r) a b = if fi.name = "_" then Bz f P r a b else Nh (vV (f fi.type) (apart P fi.type a fi.offset) (apart P fi.type b fi.offset)) (Bz f P r a b) := by
 simp only [Bz]
 split
 ·rfl
 ·cases apart P fi.type a fi.offset<;>cases apart P fi.type b fi.offset<;>simp [vV,Nh]
  rename_i x y
  cases f fi.type x y<;>cases Bz f P r a b<;>rfl
def ZhB (g:Option Bool) (s:Option Nat) (cs:List PV) (off:Nat):Option PV:=match g,s with
 | some true,some n=>if off+n<=cs.length then some (.agg ((cs.drop off).take n)) else none
 | some false,_=>cs[off]?
 | _,_=>none
@[go_sem] theorem ZhA {cs off} :apart P t cs off=ZhB (XW P t) (YU P t) cs off:=Zl rfl rfl
@[go_sem] theorem ZhC {s cs off} :ZhB (some false) s cs off=cs[off]? :=Zl rfl rfl
def Oj (g:Option Bool) (s:Option Nat) (H:List Obj) (x:V):Option V:=match g,s with
 | some true,some n=>(Ud H x n).map mkA
 | some false,_=>match Ud H x 1 with
  | some (c::_)=>some c
  | _=>none
 | _,_=>none
def hdO (x:Option (List V)):Option V:=match x with | some (c::_)=>some c | _=>none
@[go_sem] theorem Zih {c l} :hdO (some (c::l))=some c:=Zl rfl rfl
@[go_sem] theorem Zhv {x} :QJ P H t x=Oj (XW P t) (YU P t) H x:=Zl rfl rfl
@[go_sem] theorem xO {s x} :Oj (some false) s H x=hdO (Ud H x 1):=by rfl
@[go_sem] theorem xN {n x} :Oj (some true) (some n) H x=(Ud H x n).map mkA:=Zl rfl rfl
@[go_sem] theorem Zd6 {x j n} :Ud H (.lp x j) n=if j+n<=x.cells.length then some (((x.cells.drop j).take n).map .p) else none:=Zl rfl rfl
def kP (ob:Obj) (off n:Nat):Option (List V):=match ob with | .cells cs=>if off+n<=cs.length then some ((cs.drop off).take n) else none | _=>none
@[go_sem] theorem xC {o off n} :Ud H (.ptr o off) n=kP (oat H o) off n:=Zl rfl rfl
@[go_sem] theorem rV {cs off n} :kP (.cells cs) off n=if off+n<=cs.length then some ((cs.drop off).take n) else none:=Zl rfl rfl
def fI (ob:Obj) (i j tot n:Nat):Option (List V):=match ob with
 | .elems _ xs=>if xs.length=tot/\i<xs.length/\j+n<=(Ut xs i).cells.length then some ((((Ut xs i).cells.drop j).take n).map .p) else none
 | _=>none
@[go_sem] theorem Zd5 {o i j tot n} :Ud H (.ep o i j tot) n=fI (oat H o) i j tot n:=Zl rfl rfl
@[go_sem] theorem pV {S xs i j tot n} :fI (.elems S xs) i j tot n=if xs.length=tot/\i<xs.length/\j+n<=(Ut xs i).cells.length then some ((((Ut xs i).cells.drop j).take n).map .p) else none:=Zl rfl rfl
@[go_sem] theorem ZeN {cs} :(PV.agg cs).cells=cs:=Zl rfl rfl
@[go_sem] theorem ZeP {n} :(PV.int k n).cells= [.int k n]:=Zl rfl rfl
@[go_sem] theorem yW {b} :(PV.bool b).cells= [.bool b]:=Zl rfl rfl
@[go_sem] theorem ZeQ {s} :(PV.str s).cells= [.str s]:=Zl rfl rfl
@[go_sem] theorem yX {c xs} :(PV.list c xs).cells= [.list c xs]:=Zl rfl rfl
@[go_sem] theorem Zmm {n} :(PV.int k n).one=true:=Zl rfl rfl
@[go_sem] theorem ZjG {b} :(PV.bool b).one=true:=Zl rfl rfl
@[go_sem] theorem Zmn {s} :(PV.str s).one=true:=Zl rfl rfl
@[go_sem] theorem ZjH {c xs} :(PV.list c xs).one=true:=Zl rfl rfl
@[go_sem] theorem Zn1 {cs} :mkA cs=match QI cs with | some ps=> .p (.agg ps) | none=> .agg cs:=Zl rfl rfl
@[go_sem] theorem Zhu : QI []=some []:=Zl rfl rfl
@[go_sem] theorem Zek {x r} :QI (.p x::r)=(QI r).map (x:: ·):=by rfl
def D0 (n:Option Nat) (a:Bool) (x:V):Option V:=match n with | some n=>if a then some (BD n x) else none | none=>none
@[go_sem] theorem Zd9 {s f x} :Je P H s f x=D0 (ZX P s f) (We H x) x:=Zl rfl rfl
@[go_sem] theorem nQ {n x} :D0 (some n) true x=some (BD n x):=Zl rfl rfl
@[go_sem] theorem Zhy {n x j} :BD n (.lp x j)= .lp x (j+n):=Zl rfl rfl
@[go_sem] theorem Zep {n o off} :BD n (.ptr o off)= .ptr o (off+n):=Zl rfl rfl
@[go_sem] theorem Zhx {n o i j tot} :BD n (.ep o i j tot)= .ep o i (j+n) tot:=Zl rfl rfl
def RD (ob:Obj):Bool:=match ob with | .cells _=>true | _=>false
@[go_sem] theorem nK {cs} :RD (.cells cs)=true:=Zl rfl rfl
def RE (ob:Obj) (tot:Nat):Bool:=match ob with | .elems _ xs=>decide (xs.length=tot) | _=>false
@[go_sem] theorem nL {S xs tot} :RE (.elems S xs) tot=decide (xs.length=tot):=Zl rfl rfl
def iG (ob:Obj) (tot:Nat):Bool:=match ob with | .elems _ xs=>decide (xs.length=tot) | .cells _=>true | _=>false
@[go_sem] theorem wC {S xs tot} :iG (.elems S xs) tot=decide (xs.length=tot):=Zl rfl rfl
@[go_sem] theorem wB {cs tot} :iG (.cells cs) tot=true:=Zl rfl rfl
@[go_sem] theorem Zht {x j} :We H (.lp x j)=true:=Zl rfl rfl
@[go_sem] theorem xL {o off} :We H (.ptr o off)=RD (oat H o):=Zl rfl rfl
@[go_sem] theorem Zhs {o i j tot} :We H (.ep o i j tot)=RE (oat H o) tot:=Zl rfl rfl
def Us (e:Option (Option Nat×Nat)) (H:List Obj) (x i:V):Option V:=match e,i with
 | some (none,S),.p (.int _ n)=>match x with
  | .p (.list _ xs)=>if 0<=n/\n<xs.length then (if (Ut xs n.toNat).cells.length=S then some (.lp (Ut xs n.toNat) 0) else none) else none
  | .sl o off len tot=>match oat H o with
   | .elems S' xs=>if xs.length=tot/\S'=S then (if 0<=n/\n<len then some (.ep o (off+n.toNat) 0 tot) else none) else none
   | .cells _=>if S=1/\off=0/\len=tot/\0<=n/\n<len then some (.ptr o n.toNat) else none
   | _=>none
  | _=>none
 | some (some k,S),.p (.int _ n)=>if 0<=n/\n<k then (if We H x then some (BD (n.toNat*S) x) else none) else none
 | _,_=>none
@[go_sem] theorem Zeg {x i} :Qn P H t x i=Us (Wd P t) H x i:=Zl rfl rfl
theorem Jf {S c xs n} (h0:0<=n) (h1:n<(List.length xs:Int)):Us (some (none,S)) H (.p (.list c xs)) (.p (.int k n))=if (Ut xs n.toNat).cells.length=S then some (.lp (Ut xs n.toNat) 0) else none:=by
 simp_all [Us]
def nth {α:Type} [Inhabited α] (l:List α) (i:Nat):α:=l.getD i default
theorem YC {α:Type} [Inhabited α] {f:α->PV} {l:List α} {i:Nat} (h:i<l.length):Ut (l.map f) i=f (nth l i):=by
 simp [Ut,nth,h]
theorem Zi {α:Type} [Inhabited α] {l:List α} {i:Nat} (h:i<l.length):nth l i=l[i]:=by simp [nth,h]
@[go_sem] theorem uZ {α:Type} [Inhabited α] {f:α->PV} {l:List α} {S c n} (h0:0<=n) (h1:n<(l.length:Int)) :
  Us (some (none,S)) H (.p (.list c (l.map f))) (.p (.int k n))=if (f (nth l n.toNat)).cells.length=S then some (.lp (f (nth l n.toNat)) 0) else none:=by
 grind [Jf,YC]
def F4 (ob:Obj) (S o off len tot:Nat) (n:Int):Option V:=match ob with
 | .elems S' xs=>if xs.length=tot/\S'=S then (if 0<=n/\n<len then some (.ep o (off+n.toNat) 0 tot) else none) else none
 | .cells _=>if S=1/\off=0/\len=tot/\0<=n/\n<len then some (.ptr o n.toNat) else none
 | _=>none
@[go_sem] theorem xH {S o off len tot n} :Us (some (none,S)) H (.sl o off len tot) (.p (.int k n))=F4 (oat H o) S o off len tot n:=Zl rfl rfl
@[go_sem] theorem Zfi {S xs o off} {len tot:Nat} {n:Int} (h0:0<=n) (h1:n<(len:Int)) (ht:xs.length=tot):F4 (.elems S xs) S o off len tot n=some (.ep o (off+n.toNat) 0 tot):=by
 grind [F4]
@[go_sem] theorem sX {cs o} {len:Nat} {n:Int} (h0:0<=n) (h1:n<(len:Int)):F4 (.cells cs) 1 o 0 len len n=some (.ptr o n.toNat):=by
 grind [F4]
@[go_sem] theorem uY {n} {m S:Nat} {x} (h0:0<=n) (h1:n<(m:Int)):Us (some (some m,S)) H x (.p (.int k n))=D0 (some (n.toNat*S)) (We H x) x:=by
 simp_all [Us,D0]
def PW (H:List Obj) (D:Option TypeDesc) (x:V):Option PV:=match D,x with
 | some (.slice _),.p (.list _ xs)=>some (.int .i64 xs.length)
 | some (.slice _),.sl o _ len tot=>match oat H o with
  | .elems _ xs=>if xs.length=tot then some (.int .i64 len) else none
  | _=>none
 | some .string,.p (.str s)=>some (.int .i64 s.length)
 | some (.array n _),_=>some (.int .i64 n)
 | _,_=>none
@[go_sem] theorem Zlo {x} :cW P H t x=PW H (P.underlying t) x:=Zl rfl rfl
@[go_sem] theorem xI {e c xs} :PW H (some (.slice e)) (.p (.list c xs))=some (.int .i64 (List.length xs)):=Zl rfl rfl
def Zj3 (ob:Obj) (len tot:Nat):Option PV:=match ob with | .elems _ xs=>if xs.length=tot then some (.int .i64 len) else none | _=>none
@[go_sem] theorem Zhr {e o off len tot} :PW H (some (.slice e)) (.sl o off len tot)=Zj3 (oat H o) len tot:=Zl rfl rfl
@[go_sem] theorem ZdA {S xs len tot} :Zj3 (.elems S xs) len tot=if xs.length=tot then some (.int .i64 len) else none:=Zl rfl rfl
@[go_sem] theorem Zej {s} :PW H (some .string) (.p (.str s))=some (.int .i64 (List.length s)):=Zl rfl rfl
@[go_sem] theorem Zlu {b} :aun .not (.p (.bool b))=some (.bool (!b)):=Zl rfl rfl
@[go_sem] theorem Zlt {n} :aun .neg (.p (.int k n))=some (.int k (k.wrap (0-n))):=Zl rfl rfl
def cO (D E:Option TypeDesc) (x:V):Option PV:=match D,E,x with
 | some _,some (.int k),.p (.int _ n)=>some (.int k (k.wrap n))
 | some (.int _),some .string,.p (.int _ n)=>if 0<=n/\n<128 then some (.str [UInt8.ofNat n.toNat]) else none
 | some .string,some .string,.p (.str b)=>some (.str b)
 | _,_,_=>none
@[go_sem] theorem Zhp {s x} :LN P s t x=cO (P.underlying s) (P.underlying t) x:=Zl rfl rfl
@[go_sem] theorem xE {D k' n} :cO (some D) (some (.int k)) (.p (.int k' n))=some (.int k (k.wrap n)):=by rfl
def Ig (E:Option TypeDesc) (H:List Obj) (x:V):Option PV:=match E,x with
  | some (.int .u8),.p (.list _ xs)=>(Y0 xs).map .str
  | some (.int .u8),.sl o off len tot=>match oat H o with
   | .elems _ xs=>if xs.length=tot/\off+len<=tot then (Y0 ((xs.take (off+len)).drop off)).map .str else none
   | _=>none
  | _,_=>none
def If (P:Program) (H:List Obj) (D E:Option TypeDesc) (x:V):Option PV:=match D,E with
 | some (.slice e),some .string=>Ig (P.underlying e) H x
 | _,_=>none
@[go_sem] theorem Zd3 {s x} :CX P H s t x=If P H (P.underlying s) (P.underlying t) x:=Zl rfl rfl
@[go_sem] theorem uU {E x} :If P H (some (.int k)) E x=none:=Zl rfl rfl
@[go_sem] theorem nD {e x} :If P H (some (.slice e)) (some .string) x=Ig (P.underlying e) H x:=Zl rfl rfl
def lU (ob:Obj) (off len tot:Nat):Option PV:=match ob with | .elems _ xs=>if xs.length=tot/\off+len<=tot then (Y0 ((xs.take (off+len)).drop off)).map .str else none | _=>none
@[go_sem] theorem xB {o off len tot} :Ig (some (.int .u8)) H (.sl o off len tot)=lU (oat H o) off len tot:=Zl rfl rfl
@[go_sem] theorem sS {S xs off len tot} :lU (.elems S xs) off len tot=if xs.length=tot/\off+len<=tot then (Y0 ((xs.take (off+len)).drop off)).map .str else none:=Zl rfl rfl
@[go_sem] theorem vQ : Y0 []=some []:=Zl rfl rfl
@[go_sem] theorem pA {n r} :Y0 (.int .u8 n::r)=(Y0 r).map (UInt8.ofNat n.toNat:: ·):=by rfl
@[go_sem] theorem ZmM {a b:Int} (h:0<=a):a.tdiv b=a / b:=Ea h
@[go_sem] theorem Zm0 {a b:Int} (h:0<=a):a.tmod b=a%b:=Int.tmod_eq_emod_of_nonneg h
@[go_sem] theorem Zps {cs} :vc H (.p (.agg cs))=if cs.all (·.one)=true then some (cs.map .p) else none:=by rfl
@[go_sem] theorem Zm1 {cs} :vc H (.agg cs)=if cs.all (V.one H)=true then some cs else none:=by rfl
@[go_sem] theorem Zpt {n} :vc H (.p (.int k n))=some [.p (.int k n)]:=Zl rfl rfl
@[go_sem] theorem Zm2 {n} :vc H (.p (.bool n))=some [.p (.bool n)]:=Zl rfl rfl
@[go_sem] theorem Zpu {n} :vc H (.p (.str n))=some [.p (.str n)]:=Zl rfl rfl
@[go_sem] theorem Zm3 {c xs} :vc H (.p (.list c xs))=some [.p (.list c xs)]:=Zl rfl rfl
@[go_sem] theorem ZqC {o off len tot} :vc H (.sl o off len tot)=if iG (oat H o) tot=true then some [.sl o off len tot] else none:=Zl rfl rfl
@[go_sem] theorem Zpv {x} :V.one H (.p x)=x.one:=Zl rfl rfl
@[go_sem] theorem Zm5 {o} :V.one H (.mp o)=RF (oat H o):=Zl rfl rfl
@[go_sem] theorem ZqB {o} :vc H (.mp o)=if RF (oat H o)=true then some [.mp o] else none:=Zl rfl rfl
@[go_sem] theorem Ze0 {es} :RF (.map es)=true:=Zl rfl rfl
@[go_sem] theorem Zmt {α:Type} {n} {cs:List α} :Kc ([]:List α) n cs= []:=by rfl
@[go_sem] theorem Zj5 {α:Type} {x c:α} {l cs} :Kc (x::l) 0 (c::cs)=c::Kc l 0 cs:=by simp [Kc]
@[go_sem] theorem Zfj {α:Type} {x:α} {l} :Kc (x::l) 0 []=x::l:=by simp [Kc]
@[go_sem] theorem Zj4 {α:Type} {x:α} {l cs n} :Kc (x::l) (n+1) cs=x::Kc l n cs:=by simp [Kc]
def lB (H:List Obj) (o:Nat) (ob:Obj) (off n:Nat) (cs:List V):Option (List Obj):=match ob with
 | .cells old=>if off+n<=old.length then some (FD H o (.cells (Kc old off cs))) else none
 | _=>none
@[go_sem] theorem yI {n o off cs} :A8 H n (.ptr o off) cs=if cs.length=n then lB H o (oat H o) off n cs else none:=Zl rfl rfl
@[go_sem] theorem sG {o old off n cs} :lB H o (.cells old) off n cs=if off+n<=old.length then some (FD H o (.cells (Kc old off cs))) else none:=Zl rfl rfl
def OL (H:List Obj) (o:Nat) (ob:Obj) (i j tot n:Nat) (ps:Option (List PV)):Option (List Obj):=match ob,ps with
 | .elems S xs,some ps=>if xs.length=tot/\i<xs.length/\j+n<=(Ut xs i).cells.length/\ps.all (·.one)=true/\(Ut xs i).cells.all (·.one)=true then
   some (FD H o (.elems S (xs.set i (nM (Ut xs i) (Kc (Ut xs i).cells j ps))))) else none
 | _,_=>none
@[go_sem] theorem ZeE {n o i j tot cs} :A8 H n (.ep o i j tot) cs=if cs.length=n then OL H o (oat H o) i j tot n (QI cs) else none:=Zl rfl rfl
@[go_sem] theorem zT {α:Type} [Inhabited α] {f:α->PV} {l:List α} {o S i j tot n ps} (ht:l.length=tot) (hi:i<l.length):OL H o (.elems S (l.map f)) i j tot n (some ps) =
  if j+n<=(f (nth l i)).cells.length/\ps.all (·.one)=true/\(f (nth l i)).cells.all (·.one)=true then
   some (FD H o (.elems S ((l.map f).set i (nM (f (nth l i)) (Kc (f (nth l i)).cells j ps))))) else none:=by
 simp_all [OL,YC]
@[go_sem] theorem Zmh {a cs} :nM (.agg a) cs= .agg cs:=Zl rfl rfl
@[go_sem] theorem Zmi {n c l} :nM (.int k n) (c::l)=c:=Zl rfl rfl
@[go_sem] theorem Zjs {n c l} :nM (.bool n) (c::l)=c:=Zl rfl rfl
@[go_sem] theorem Zd2 {l} :EE P H t l=match XB P t,Gd P t with
 | some zs,some pl=>(Kf H pl (zs.map .p) l).map mkA
 | _,_=>none:=Zl rfl rfl
@[go_sem] theorem Zea {pl cs} :Kf H pl cs []=some cs:=by simp [Kf]
def cQ (H:List Obj) (pl:Nat->Option (Nat×Nat)) (cs:List V) (r:List (Nat×V)) (q:Option (Nat×Nat)) (vs:Option (List V)):Option (List V):=match q,vs with
 | some (off,sz),some vs=>if vs.length=sz/\off+sz<=cs.length then Kf H pl (Kc cs off vs) r else none
 | _,_=>none
@[go_sem] theorem xG {pl cs i v r} :Kf H pl cs ((i,v)::r)=cQ H pl cs r (pl i) (vc H v):=Zl rfl rfl
@[go_sem] theorem uW {pl cs off sz vs r} :cQ H pl cs r (some (off,sz)) (some vs)=if vs.length=sz/\off+sz<=cs.length then Kf H pl (Kc cs off vs) r else none:=Zl rfl rfl
@[go_sem] theorem Zn8 {l i} :FH l i=l[i]? :=Zl rfl rfl
@[go_sem] theorem Zn7 {n i} :plA n i=some (i*n,n):=Zl rfl rfl
end vals
end Go.AM
namespace Go.AM
open Go.RowKit
section
variable {P : Program} {H : List Obj} {k : IntKind} {t u : TypeId} {fr : List V}
def cX (S:Option Nat) (H:List Obj) (n:Nat) (l:List (Nat×V)):Option (V×List Obj):=match S with
 | some S=>if n=l.length/\n*S<=16777216/\0<S then (QU H S 0 l).map fun xs=>(.sl H.length 0 n n,H++ [.elems S xs]) else none
 | none=>none
@[go_sem] theorem Zhw {n l} :WN P (.buildSlice t n (List.toArray l)) fr H=cX (QB P t) H n (l.map fun x=>(x.1,ev fr x.2)):=by
 grind [WN,QB,cX,Oi]
@[go_sem] theorem xJ {S n l} :cX (some S) H n l=if n=l.length/\n*S<=16777216/\0<S then (QU H S 0 l).map fun xs=>(.sl H.length 0 n n,H++ [.elems S xs]) else none:=Zl rfl rfl
@[go_sem] theorem Zjo {S n} :QU H S n []=some []:=by simp [QU]
@[go_sem] theorem Ze6 {S n i x r} :QU H S n ((i,.p x)::r)=if i=n then if x.cells.length=S/\x.cells.all (·.one)=true then (QU H S (n+1) r).map (x:: ·) else none else none:=by rfl
@[go_sem] theorem Zl7 {S n i f r} :QU H S n ((i,.fn (.func f) [] [])::r)=if i=n then if 1=S then (QU H S (n+1) r).map (.fn f:: ·) else none else none:=by simp [QU,pvo,PV.cells,PV.one]
def AO (P:Program) (t:TypeId):Option (Nat×Nat):=match P.underlying t with
 | some (.slice e)=>match YU P e,zval P e,(P.info? e).map (·.bytes) with
  | some S,some z,some by'=>if 0<S/\z.cells.length=S/\z.cells.all (·.one)=true/\by'≠0 then some (S,by') else none
  | _,_,_=>none
 | _=>none
theorem LW {S by'} (h:AO P t=some (S,by')): ∃e z,P.underlying t=some (.slice e)/\YU P e=some S/\zval P e=some z/\(P.info? e).map (·.bytes)=some by'/\0<S/\z.cells.length=S/\z.cells.all (·.one)=true/\by'≠0:=by
 unfold AO at h
 grind
def WU (D:Option TypeDesc) (H:List Obj) (y:V):Option (List PV):=match D,y with
 | some (.slice _),.p (.list _ ys)=>some ys
 | some (.slice _),.sl o off len tot=>match oat H o with
  | .elems _ xs=>if xs.length=tot/\off+len<=tot then some ((xs.take (off+len)).drop off) else none
  | _=>none
 | some .string,.p (.str s)=>some (s.map fun b=> .int .u8 b.toNat)
 | _,_=>none
def mB (ob:Obj) (off len tot:Nat):Option (List PV):=match ob with | .elems _ xs=>if xs.length=tot/\off+len<=tot then some ((xs.take (off+len)).drop off) else none | _=>none
@[go_sem] theorem xW {e c ys} :WU (some (.slice e)) H (.p (.list c ys))=some ys:=Zl rfl rfl
@[go_sem] theorem ZhG {e o off len tot} :WU (some (.slice e)) H (.sl o off len tot)=mB (oat H o) off len tot:=Zl rfl rfl
theorem NS {S xs n} (h:List.length xs=n):mB (.elems S xs) 0 n n=some xs:=by grind [mB]
def Oq (H:List Obj) (F:Option (Nat×Nat)) (ys:Option (List PV)):Option (V×List Obj):=match F,ys with
 | some (S,by'),some ys=>if Cs S ys=true/\ys.length*by'<=140737488355328/\ys.length<=140737488355328 then some (.sl H.length 0 ys.length ys.length,H++ [.elems S ys]) else none
 | _,_=>none
def U5 (H:List Obj) (F:Option (Nat×Nat)) (ob:Obj) (o n:Nat) (ys:Option (List PV)):Option (V×List Obj):=match F,ob,ys with
 | some (S,by'),.elems S' xs,some ys=>if S'=S/\xs.length=n/\Cs S ys=true/\(n+ys.length)*by'<=140737488355328/\n+ys.length<=140737488355328 then
   some (.sl o 0 (n+ys.length) (n+ys.length),FD H o (.elems S (xs++ys))) else none
 | _,_,_=>none
theorem PS {z x y ys e S by'} (h1:P.underlying t=some (.slice e)) (h2:YU P e=some S) (h3:zval P e=some z) (h4:(P.info? e).map (·.bytes)=some by') (h5:Gx P H u y=some ys) (h6:0<S/\z.cells.length=S/\z.cells.all (·.one)=true/\by'≠0) :
  VJ P H t u x y=if Cs S ys=true then (match x with
    | .p (.list cl xs)=>if cl=true/\Cs S xs=true/\(xs= []\/0<ys.length)/\(xs.length+ys.length)*by'<=140737488355328/\xs.length+ys.length<=140737488355328 then
      some (.sl H.length 0 (xs.length+ys.length) (xs.length+ys.length),H++ [.elems S (xs++ys)]) else none
    | .sl o off len tot=>match oat H o with
     | .elems S' xs=>if S'=S/\off=0/\len=tot/\xs.length=tot/\(tot+ys.length)*by'<=140737488355328/\tot+ys.length<=140737488355328 then
       some (.sl o 0 (tot+ys.length) (tot+ys.length),FD H o (.elems S (xs++ys))) else none
     | _=>none
    | _=>none) else none:=by
 simp only [VJ,h1,h2,h3,h4,h5]
 grind
theorem ED {y F} (hF:AO P t=some F):VJ P H t u (.p (.list true [])) y=Oq H (some F) (WU (P.underlying u) H y):=by
 obtain ⟨S,by'⟩:=F;obtain ⟨e,z,h1,h2,h3,h4,h6⟩:=LW hF;have e1:WU (P.underlying u) H y=Gx P H u y:=Zl rfl rfl;rw [e1]
 cases h5:Gx P H u y with
 | none=>grind [VJ,Oq]
 | some ys =>
  grind [PS,Oq,Cs]
theorem Y5 {y F o n} (hF:AO P t=some F):VJ P H t u (.sl o 0 n n) y=U5 H (some F) (oat H o) o n (WU (P.underlying u) H y):=by
 obtain ⟨S,by'⟩:=F;obtain ⟨e,z,h1,h2,h3,h4,h6⟩:=LW hF;have e1:WU (P.underlying u) H y=Gx P H u y:=Zl rfl rfl;rw [e1]
 cases h5:Gx P H u y with
 | none =>
  grind [VJ,U5]
 | some ys =>
  rw [PS h1 h2 h3 h4 h5 h6];simp only [U5]
  grind
@[go_sem] theorem Zeu {S b ys} :Oq H (some (S,b)) (some ys)=if Cs S ys=true/\ys.length*b<=140737488355328/\ys.length<=140737488355328 then some (.sl H.length 0 ys.length ys.length,H++ [.elems S ys]) else none:=Zl rfl rfl
theorem GZ {S b xs ys o n} (hn:xs.length=n) (hb:(n+ys.length)*b<=140737488355328) (hb2:n+ys.length<=140737488355328):U5 H (some (S,b)) (.elems S xs) o n (some ys)=if Cs S ys=true then some (.sl o 0 (n+ys.length) (n+ys.length),FD H o (.elems S (xs++ys))) else none:=by
 simp_all [U5]
@[go_sem] theorem Zj6 {α:Type} {S} {f:α->PV} {l:List α} :mB (.elems S (l.map f)) 0 l.length l.length=some (l.map f):=NS Zb
@[go_sem] theorem Zj7 {S x} :mB (.elems S [x]) 0 1 1=some [x]:=NS Zb
@[go_sem] theorem Zew {α:Type} {S b o x} {f:α->PV} {l:List α} (hb:(l.length+1)*b<=140737488355328) (hb2:l.length+1<=140737488355328):U5 H (some (S,b)) (.elems S (l.map f)) o l.length (some [x])=if Cs S [x]=true then some (.sl o 0 (l.length+1) (l.length+1),FD H o (.elems S (l.map f++ [x]))) else none :=
 GZ Zb Za Za
@[go_sem] theorem Zex {α β:Type} {S b o} {f:α->PV} {g:β->PV} {l:List α} {m:List β} (hb:(l.length+m.length)*b<=140737488355328) (hb2:l.length+m.length<=140737488355328):U5 H (some (S,b)) (.elems S (l.map f)) o l.length (some (m.map g))=if Cs S (m.map g)=true then some (.sl o 0 (l.length+m.length) (l.length+m.length),FD H o (.elems S (l.map f++m.map g))) else none:=by
 grind [GZ]
@[go_sem] theorem Zml {S} :Cs S []=true:=Zl rfl rfl
@[go_sem] theorem ZjA {S x l} :Cs S (x::l)=((x.cells.length==S)&&x.cells.all (·.one)&&Cs S l):=by rfl
theorem JP {α:Type} {S} {f:α->PV} {l:List α} (h: ∀x,Zdb S (f x)=true):Cs S (l.map f)=true:=by grind [Cs]
def RO (P:Program) (t:TypeId):Option (Nat×Nat×PV):=match P.underlying t with
  | some (.slice e)=>match YU P e,zval P e,(P.info? e).map (·.bytes) with
   | some S,some z,some by'=>if z.cells.all (·.one)=true/\z.cells.length=S/\0<S then some (S,by',z) else none
   | _,_,_=>none
  | _=>none
end
def WX : Nat->List Nat->List V->List V
 | _,_,[]=> []
 | i,[],_::l=> .junk::WX (i+1) [] l
 | i,k::ks,x::l=>if i=k then x::WX (i+1) ks l else .junk::WX (i+1) (k::ks) l
def AU : List (Nat×V)->List V->List V
 | [],fr=>fr
 | (i,v)::r,fr=>AU r (pt fr i v)
@[go_sem] theorem Ze1 {i ks} :WX i ks []= []:=by rfl
@[go_sem] theorem ZcY {i x l} :WX i [] (x::l)= .junk::WX (i+1) [] l:=by simp [WX]
@[go_sem] theorem ZcX {i k ks x l} :WX i (k::ks) (x::l)=if i=k then x::WX (i+1) ks l else .junk::WX (i+1) (k::ks) l:=by simp [WX]
@[go_sem] theorem ZpE : ((0:Nat):Int)=0:=Zl rfl rfl
@[go_sem] theorem ZpF {n:Nat} :((n+1:Nat):Int)=(n:Int)+1:=Zl rfl rfl
@[go_sem] theorem ZoG {n:Nat} :((n:Int)).toNat=n:=Zl rfl rfl
@[go_sem] theorem Zj0 {fr} :AU [] fr=fr:=by simp [AU]
@[go_sem] theorem Zfh {i v r fr} :AU ((i,v)::r) fr=AU r (pt fr i v):=by simp [AU]
@[go_sem] theorem Zlr {p q:Prop} [Decidable p] [Decidable q]:(decide p&&decide q)=decide (p/\q):=Zb
@[go_sem] theorem Zdg {p q:Prop} [Decidable p] [Decidable q]:(decide p||decide q)=decide (p\/q):=Zb
theorem Zk {P c fr H Q} {I:Type} (ks:List Nat) (sets:I->List (Nat×V)) (hs:I->List Obj) (R:I->Prop) (μ:I->Nat) (i0:I) (hR:R i0) (h0:Weak H.length fr H (AU (sets i0) (WX 0 ks fr)) (hs i0))
  (round: ∀i,R i->Jj [] P c (AU (sets i) (WX 0 ks fr)) (hs i) (Q7 (fun fr' H'=> ∃i',R i'/\μ i'<μ i/\Weak H.length fr' H' (AU (sets i') (WX 0 ks fr)) (hs i')) Q)):AWP P (.loop c) fr H Q :=
 L7 R (fun i=>AU (sets i) (WX 0 ks fr)) hs μ i0 hR h0 fun i hi=>Zg [] _ _ _ _ (round i hi)
theorem ZO {P c fr H Q} (cuts:List Nat) {I:Type} (ks:List Nat) (sets:I->List (Nat×V)) (hs:I->List Obj) (R:I->Prop) (μ:I->Nat) (i0:I) (hR:R i0) (h0:Weak H.length fr H (AU (sets i0) (WX 0 ks fr)) (hs i0))
  (round: ∀i,R i->Jj cuts P c (AU (sets i) (WX 0 ks fr)) (hs i) (Q7 (fun fr' H'=> ∃i',R i'/\μ i'<μ i/\Weak H.length fr' H' (AU (sets i') (WX 0 ks fr)) (hs i')) Q)):AWP P (.loop c) fr H Q :=
 L7 R (fun i=>AU (sets i) (WX 0 ks fr)) hs μ i0 hR h0 fun i hi=>Zg cuts _ _ _ _ (round i hi)
theorem ZD {P x y fr H Q} {I:Type} (ks:List Nat) (sets:I->List (Nat×V)) (hs:I->List Obj) (R:I->Prop)
  (h:Jj [] P x fr H (Q7 (fun fr' H'=> ∃i,R i/\Weak H.length fr' H' (AU (sets i) (WX 0 ks fr)) (hs i)) Q)) (k: ∀i,R i->AWP P y (AU (sets i) (WX 0 ks fr)) (hs i) Q):AWP P (.seq x y) fr H Q :=
 fun F ι a w hr hf=>by
 refine wp_seq (wp_mono (Zg [] _ _ _ _ h F ι a w hr hf) ?_);rintro e a' w' ⟨fr',H',ι',q,g,f⟩
 cases e with
 | normal =>
  obtain ⟨i,hi,hw⟩:=q;obtain ⟨ι2,r2,f2,g2⟩:=hw F ι' a' w' g.rel f;refine wp_mono (k i hi F ι2 a' w' r2 f2) ?_;rintro e2 a2 w2 ⟨fr2,H2,ι3,q2,g3,f3⟩;exact ⟨fr2,H2,ι3,q2,(g2 H ι w (Zv _) g).trans g3,f3⟩
 | exit id=>exact ⟨fr',H',ι',q,g,f⟩
 | goto l=>exact ⟨fr',H',ι',q,g,f⟩
 | ret=>exact ⟨fr',H',ι',q,g,f⟩
 | panic ch=>exact ⟨fr',H',ι',q,g,f⟩
 | outgrown=>exact ⟨fr',H',ι',q,g,f⟩
@[go_sem] theorem Zk7 {H n x} :GR H n x .junk=True:=by simp [GR]
@[go_sem] theorem Zpy {H n} {x y:PV} :GR H n (.p x) (.p y)=(y=x):=by simp [GR,refB,qK]
@[go_sem] theorem Zna {H n o off len tot o' off' len' tot'} :GR H n (.sl o off len tot) (.sl o' off' len' tot')=((o'=o/\off'=off/\len'=len/\tot'=tot)/\o<n):=by simp [GR,refB]
@[go_sem] theorem Zk8 {H n o off o' off'} :GR H n (.ptr o off) (.ptr o' off')=((o'=o/\off'=off)/\o<n):=by simp [GR,refB]
@[go_sem] theorem Zm6 {H n} :Sq H n [] []=True:=by simp [Sq]
@[go_sem] theorem Zk4 {H n x l x' l'} :Sq H n (x::l) (x'::l')=(GR H n x x'/\Sq H n l l'):=by simp [Sq]
@[go_sem] theorem Zm7 {H n l} :LG H n l []=True:=by simp [LG]
@[go_sem] theorem Zk5 {H n x l x' l'} :LG H n (x::l) (x'::l')=(EB H n x x'/\LG H n l l'):=by simp [LG]
@[go_sem] theorem Zf7 {H n cs cs'} :EB H n (.cells cs) (.cells cs')=Sq H n cs cs':=by simp [EB]
@[go_sem] theorem Zf8 {H n S S' xs xs'} :EB H n (.elems S xs) (.elems S' xs')=(S=S'/\xs=xs'):=by simp [EB]
@[go_sem] theorem Zm8 {H n es es2} :EB H n (.map es) (.map es2)=(es=es2):=by simp [EB]
@[go_sem] theorem Zpx {H n o o2} :GR H n (.mp o) (.mp o2)=(o2=o/\o<n):=by simp [GR,refB,qK]
@[go_sem] theorem Zk6 {H n} :EB H n .dead .dead=True:=by simp [EB]
theorem Weak.mk {n0 fr H fr' H'} (h:n0<=H'.length/\H'.length<=H.length/\Sq H H'.length fr fr'/\LG H H'.length H H'):Weak n0 fr H fr' H':=Weak.of h.1 h.2.2.1 h.2.2.2 h.2.1
theorem wk {n0 fr H fr' H'} (h:n0<=H'.length/\H'.length<=H.length/\Sq H H'.length fr fr'/\LG H H'.length H H':=by simp (disch:=omega) only [go_sem,seval]):Weak n0 fr H fr' H':=Weak.mk h
theorem we {n0 x H' a b} (h:n0<=List.length b/\List.length b<=H'.length/\Sq H' (List.length b) [x] [a]/\LG H' (List.length b) H' b:=by simp (disch:=omega) only [go_sem,seval]): ∃y H'',Weak n0 [x] H' [y] H''/\y=a/\H''=b:=⟨_,_,Weak.mk h,rfl,rfl⟩
attribute [go_sem] List.length_cons List.length_nil List.cons_append List.nil_append List.append_nil List.map_cons List.map_nil List.drop_zero List.drop_succ_cons List.drop_nil List.take_succ_cons List.take_zero List.take_nil List.all_cons List.all_nil
 XV Wu and_self VY and_true Cn Ap List.getElem?_cons_zero Ee US Wt Bool.and_self ZK if_true YA Vd JG IntWalk.i64_in IntWalk.i32_in IntWalk.u8_in IntWalk.u64_in IntWalk.u32_in
 beq_self_eq_true Kt List.replicate_zero Bool.or_true Bool.true_or JD JC VX VV
end Go.AM
namespace Go.AM
open Go.RowKit
theorem RP.weaker {X X':Nat->Prop} {w x v} (h:RP X w x v) (hx: ∀b,X' b->X b):RP X' w x v:=h.ext (w':=w) fun _ hb hs=>⟨fun h=>hb (hx _ h),hs,rfl⟩
theorem Good.forget {F w H' ι' w'} (he:Env F [] w) (hf: ∀b,F b->b<w.heap.size) (g:Good F [] [] w H' ι' w'):Good F [] [] w [] [] w' :=
 .up he ⟨⟨rfl,fun b hb=>by have:=hf b hb;have:=g.size;omega,fun i j b hi=>by simp at hi,fun i b hi=>by simp at hi,fun o cs ho=>by simp at ho,fun o S xs ho=>by simp at ho,fun o es ho=>by simp at ho,fun o T E r bs ho=>by simp at ho⟩,
  g.os,g.tape,g.output,fun b c t h=>(g.shape b c t h).imp (fun h=>absurd h.1 Zb) id,g.size,g.keep,fun _ _ h=>h,fun o ob ho=>by simp at ho⟩
theorem ACalls.pure {P g args} {y:PV} (h:ACalls P g args [] fun x _=>x= .p y):ACalls P g args [] fun x H'=>x= .p y/\H'= []:=by
 refine ⟨h.1,fun F ι w vs hr hv=> ?_⟩;have hι:ι= []:=Yt hr.len;subst hι;refine (h.2 F [] w vs hr hv).mono ?_;rintro e w' ⟨x,H',ι',v,rfl,rfl,gd,rv⟩
 cases rv with | p _ _ rp =>
 exact ⟨_,[],[],v,rfl,⟨rfl,rfl⟩,gd.forget hr.env hr.fin,.p _ _ (rp.weaker fun b hb=> .inl (by rcases hb with hb | hb;exact hb;simp at hb))⟩
theorem Fc {F:Nat->Prop} {w w':World} {H':List Obj} {ι':List (Option Nat)} {v:Value} {o S n:Nat} {xs:List PV} (hF: ∀b,F b->b<w.heap.size) (hn:xs.length=n) (ho:oat H' o= .elems S xs)
  (gd:Good F [] [] w H' ι' w') (rv:RV F H' ι' w' (.sl o 0 n n) v): ∃ι2,Good F [] [] w [.elems S xs] ι2 w'/\RV F [.elems S xs] ι2 w' (.sl 0 0 n n) v:=by
 have hH:=Z8 ho Zb;have hlt:=(ZS.1 hH).1
 have hlt':o<ι'.length:=by rw [gd.rel.len];exact hlt
 have hι':ι'[o]? =some (ι'[o]):=by simp [hlt']
 have hget: ∀ {i:Nat} {q:Option Nat},[ι'[o]][i]? =some q->i=0/\ι'[o]? =some q:=fun {i q} h=>by
  grind
 have hown: ∀b,Own F [ι'[o]] b->Own F ι' b:=fun b hb=>by
  rcases hb with hb | hb
  ·exact .inl hb
  ·simp at hb;right;rw [hb];simp
 refine ⟨[ι'[o]],⟨⟨⟨rfl,fun b hb=> ?_,fun i j b hi hj=> ?_,fun i b hi=> ?_,fun o' cs ho'=> ?_,fun o' S' xs' ho'=> ?_,fun o' es ho'=>by grind,fun o' T E r bs ho'=>by grind⟩,gd.rel.env.le hown⟩,gd.os,gd.tape,gd.output,fun b c t h=>(gd.shape b c t h).imp (fun h=>absurd h.1 Zb) id,gd.size,gd.keep,fun b hb _ h=> ?_,fun o ob ho=>by simp at ho⟩,?_⟩
 ·have:=hF b hb;have:=gd.size;omega
 ·grind
 ·exact gd.rel.avo o b (hget hi).2
 ·grind
 ·cases o' with
  | zero =>
   simp at ho';obtain ⟨rfl,rfl⟩:=ho';rcases gd.rel.elm o _ _ hH with ⟨e1,e2⟩ | ⟨b,c,t,cap,e1,e2,e3,e4,e5,e6,e7⟩
   ·grind
   ·exact .inr ⟨b,c,t,cap,by grind,e2,e3,e4,e5,e6,fun i x j y hi hj=>(e7 i x j y hi hj).weaker hown⟩
  | succ i=>simp at ho'
 ·simp at h;exact gd.own b hb Zb (by rw [h];simp)
 ·cases rv with
  | slNil _ S2 a h1 h2 =>
   rw [hH] at h2;simp at h2;obtain ⟨rfl,rfl⟩:=h2;exact .slNil 0 S a (by grind) rfl
  | sl _ _ _ _ b S2 cap t xs2 c h1 h2 ht hw hcap hl hlen hm =>
   rw [hH] at h2;simp at h2;obtain ⟨rfl,rfl⟩:=h2;exact .sl 0 0 n n b S cap t xs c (by grind) rfl hn hw hcap hl hlen hm
  | slD _ _ _ _ _ h1=>grind
  | slS _ _ _ _ _ S2 xs2 h1 hne=>grind
  | slC _ _ _ _ _ _ hd=>grind
theorem ACalls.fresh {P g args} {S n:Nat} {xs:List PV} (hn:xs.length=n) (h:ACalls P g args [] fun x H'=> ∃o,x= .sl o 0 n n/\oat H' o= .elems S xs):ACalls P g args [] fun x H'=>x= .sl 0 0 n n/\H'= [.elems S xs]:=by
 refine ⟨h.1,fun F ι w vs hr hv=> ?_⟩;have hι:ι= []:=Yt hr.len;subst hι;refine (h.2 F [] w vs hr hv).mono ?_;rintro e w' ⟨x,H',ι',v,rfl,⟨o,rfl,ho⟩,gd,rv⟩;obtain ⟨ι2,g2,r2⟩:=Fc hr.fin hn ho gd rv
 grind
theorem ACalls.freshE {P g args} {α:Type} {S:Nat} {f:α->PV} {R:List α->Prop} (h:ACalls P g args [] fun x H'=> ∃l:List α,R l/\ ∃o,x= .sl o 0 l.length l.length/\oat H' o= .elems S (l.map f)) :
  ACalls P g args [] fun x H'=> ∃l:List α,R l/\x= .sl 0 0 l.length l.length/\H'= [.elems S (l.map f)]:=by
 refine ⟨h.1,fun F ι w vs hr hv=> ?_⟩;have hι:ι= []:=Yt hr.len;subst hι;refine (h.2 F [] w vs hr hv).mono ?_;rintro e w' ⟨x,H',ι',v,rfl,⟨l,hl,o,rfl,ho⟩,gd,rv⟩;obtain ⟨ι2,g2,r2⟩:=Fc hr.fin Zb ho gd rv
 grind
theorem ACalls.frozen {P g args} {S n:Nat} {xs:List PV} (hn:xs.length=n) (h:ACalls P g args [] fun x H'=>x= .sl 0 0 n n/\H'= [.elems S xs]):ACalls P g args [] fun x H'=>x= .p (.list false xs)/\H'= []:=by
 refine ⟨h.1,fun F ι w vs hr hv=> ?_⟩;have hι:ι= []:=Yt hr.len;subst hι;refine (h.2 F [] w vs hr hv).mono ?_;rintro e w' ⟨x,H',ι',v,rfl,⟨rfl,rfl⟩,gd,rv⟩;have hk:Keeps (Own F ι') w' (Own F []) w':=fun b hb hs=>⟨fun h=>hb (.inl (by rcases h with h | h;exact h;simp at h)),hs,rfl⟩
 have:=Bn (S:=S) (xs:=xs) (off:=0) (len:=n) (tot:=n) (Own F []) (fun b hb h=>by
  rcases h with h | h
  ·exact (gd.rel.avo 0 b hb).1 h
  ·simp at h) hk gd.rel rfl hn Za rv
 rw [XV,List.drop_zero,Eg Za] at this;exact ⟨_,[],[],v,rfl,⟨rfl,rfl⟩,gd.forget hr.env hr.fin,.p _ _ this⟩
theorem ACalls.frozenE {P g args} {α:Type} {S:Nat} {f:α->PV} {R:List α->Prop} (h:ACalls P g args [] fun x H'=> ∃l:List α,R l/\x= .sl 0 0 l.length l.length/\H'= [.elems S (l.map f)]) :
  ACalls P g args [] fun x H'=> ∃l:List α,R l/\x= .p (.list false (l.map f))/\H'= []:=by
 refine ⟨h.1,fun F ι w vs hr hv=> ?_⟩;have hι:ι= []:=Yt hr.len;subst hι;refine (h.2 F [] w vs hr hv).mono ?_;rintro e w' ⟨x,H',ι',v,rfl,⟨l,hl,rfl,rfl⟩,gd,rv⟩;have hk:Keeps (Own F ι') w' (Own F []) w':=fun b hb hs=>⟨fun h=>hb (.inl (by rcases h with h | h;exact h;simp at h)),hs,rfl⟩
 have:=Bn (S:=S) (xs:=l.map f) (off:=0) (len:=l.length) (tot:=l.length) (Own F []) (fun b hb h=>by
  rcases h with h | h
  ·exact (gd.rel.avo 0 b hb).1 h
  ·simp at h) hk gd.rel rfl Zb Za rv
 rw [XV,List.drop_zero,Eg Zb] at this;exact ⟨_,[],[],v,rfl,⟨l,hl,rfl,rfl⟩,gd.forget hr.env hr.fin,.p _ _ this⟩
theorem ACalls.useV {P g args} {α:Type} {f:α->PV} {R:α->Prop} {H:List Obj} {K:V->List Obj->Prop} (h:ACalls P g args [] fun x H'=> ∃a:α,R a/\x= .p (f a)/\H'= []) (k: ∀a,R a->K (.p (f a)) H) (ha:Z9 0 args=true:=by rfl):ACalls P g args H K:=by
 refine (h.behind ha H).mono ?_;rintro x H' ⟨y',H1,⟨a,ra,rfl,rfl⟩,rfl,rfl⟩
 grind [shV]
theorem ACalls.useE {P g args} {α:Type} {S:Nat} {f:α->PV} {R:List α->Prop} {H:List Obj} {K:V->List Obj->Prop} (h:ACalls P g args [] fun x H'=> ∃l:List α,R l/\x= .sl 0 0 l.length l.length/\H'= [.elems S (l.map f)])
  (k: ∀l,R l->K (.sl H.length 0 l.length l.length) (H++ [.elems S (l.map f)])) (ha:Z9 0 args=true:=by rfl):ACalls P g args H K:=by
 refine (h.behind ha H).mono ?_;rintro x H' ⟨y',H1,⟨l,rl,rfl,rfl⟩,rfl,rfl⟩
 grind [shV,shO]
theorem ACalls.use {P g args} {y:PV} {H:List Obj} {K:V->List Obj->Prop} (h:ACalls P g args [] fun x H'=>x= .p y/\H'= []) (k:K (.p y) H) (ha:Z9 0 args=true:=by rfl):ACalls P g args H K:=by
 refine (h.behind ha H).mono ?_;rintro x H' ⟨y',H1,⟨rfl,rfl⟩,rfl,rfl⟩
 grind [shV]
theorem ACalls.useF {P g args} {S n:Nat} {xs:List PV} {H:List Obj} {K:V->List Obj->Prop} (h:ACalls P g args [] fun x H'=>x= .sl 0 0 n n/\H'= [.elems S xs]) (k:K (.sl H.length 0 n n) (H++ [.elems S xs])) (ha:Z9 0 args=true:=by rfl):ACalls P g args H K:=by
 refine (h.behind ha H).mono ?_;rintro x H' ⟨y',H1,⟨rfl,rfl⟩,rfl,rfl⟩
 grind [shV,shO]
theorem Zd {P:Program} {g:FuncId} {fn:Func} {c:Code} {args:List V} {y:PV} (hf:P.funcs[g]? =some fn) (hb:fn.body=some c) (hg:Zj P g)
  (h:Jj [] P c (args++List.replicate (fn.ntmps-args.length) .junk) [] (Kb P fn.results.toList fun x _=>x= .p y)):ACalls P g args [] fun x H'=>x= .p y/\H'= [] :=
 (Ye hf hb hg (Zg [] _ _ _ _ h)).pure
theorem By (cuts:List Nat) {P:Program} {g:FuncId} {fn:Func} {c:Code} {args:List V} {y:PV} (hf:P.funcs[g]? =some fn) (hb:fn.body=some c) (hg:Zj P g)
  (h:Jj cuts P c (args++List.replicate (fn.ntmps-args.length) .junk) [] (Kb P fn.results.toList fun x _=>x= .p y)):ACalls P g args [] fun x H'=>x= .p y/\H'= [] :=
 (Ye hf hb hg (Zg cuts _ _ _ _ h)).pure
theorem Bx {P:Program} {g:FuncId} {fn:Func} {c:Code} {args:List V} {S n:Nat} {xs:List PV} (hn:xs.length=n) (hf:P.funcs[g]? =some fn) (hb:fn.body=some c) (hg:Zj P g)
  (h:Jj [] P c (args++List.replicate (fn.ntmps-args.length) .junk) [] (Kb P fn.results.toList fun x H'=> ∃o,x= .sl o 0 n n/\oat H' o= .elems S xs)):ACalls P g args [] fun x H'=>x= .sl 0 0 n n/\H'= [.elems S xs] :=
 (Ye hf hb hg (Zg [] _ _ _ _ h)).fresh hn
theorem Gw (cuts:List Nat) {P:Program} {g:FuncId} {fn:Func} {c:Code} {args:List V} {S n:Nat} {xs:List PV} (hn:xs.length=n) (hf:P.funcs[g]? =some fn) (hb:fn.body=some c) (hg:Zj P g)
  (h:Jj cuts P c (args++List.replicate (fn.ntmps-args.length) .junk) [] (Kb P fn.results.toList fun x H'=> ∃o,x= .sl o 0 n n/\oat H' o= .elems S xs)):ACalls P g args [] fun x H'=>x= .sl 0 0 n n/\H'= [.elems S xs] :=
 (Ye hf hb hg (Zg cuts _ _ _ _ h)).fresh hn
theorem Xj (cuts:List Nat) {P:Program} {g:FuncId} {fn:Func} {c:Code} {args:List V} {α:Type} {S:Nat} {f:α->PV} {R:List α->Prop} (hf:P.funcs[g]? =some fn) (hb:fn.body=some c) (hg:Zj P g)
  (h:Jj cuts P c (args++List.replicate (fn.ntmps-args.length) .junk) [] (Kb P fn.results.toList fun x H'=> ∃l:List α,R l/\ ∃o,x= .sl o 0 l.length l.length/\oat H' o= .elems S (l.map f))):ACalls P g args [] fun x H'=> ∃l:List α,R l/\x= .sl 0 0 l.length l.length/\H'= [.elems S (l.map f)] :=
 (Ye hf hb hg (Zg cuts _ _ _ _ h)).freshE
theorem Weak.ofNil {n0 fr H fr' H'} (t S:Nat) (h:gt fr t= .p (.list true [])) (hn:n0<=H.length) (k:Weak n0 (pt fr t (.sl H.length 0 0 0)) (H++ [.elems S []]) fr' H'):Weak n0 fr H fr' H' :=
 (Weak.nil t S h hn).trans k
end Go.AM
namespace Go.AM
open Go.RowKit
section
variable {P : Program} {H : List Obj} {t : TypeId} {fr : List V}
def EQ (e:Option (Option Nat×Nat)) (c:Bool) (xs:List PV) (lo hi:V):Option V:=match e,lo,hi with
 | some (none,S),.p (.int _ a),.p (.int _ b)=>if EJ S xs=true/\0<=a/\a<=b/\b<=xs.length then some (.p (.list (c&&decide (b=xs.length)) ((xs.take b.toNat).drop a.toNat))) else none
 | _,_,_=>none
def V.isInt : V->Option Int
 | .p (.int _ n)=>some n
 | _=>none
theorem V.isInt_some {x:V} {n} (h:x.isInt=some n): ∃k,x= .p (.int k n):=by
 unfold V.isInt at h;grind
theorem K3 {d:Int} {x:Operand} :Of d fr (some x)=(ev fr x).isInt:=rfl
theorem CZ {c xs k k' a b} :(K8 P t c xs a b none).map .p=EQ (Wd P t) c xs (.p (.int k a)) (.p (.int k' b)):=by
 simp only [K8,EQ]
 grind
theorem P5 {e c xs lo hi} (h:lo.isInt=none):EQ e c xs lo hi=none:=by
 unfold EQ;grind [V.isInt]
theorem P4 {e c xs lo hi} (h:hi.isInt=none):EQ e c xs lo hi=none:=by
 unfold EQ;grind [V.isInt]
@[go_sem] theorem Zey {c xs hi} :VM P H t fr (.p (.list c xs)) none (some hi) none=EQ (Wd P t) c xs (.p (.int .i64 0)) (ev fr hi):=by
 simp only [VM,K3]
 cases h:(ev fr hi).isInt with
 | none=>simp [Of,P4 h]
 | some n=>obtain ⟨k,e⟩:=V.isInt_some h;rw [e,<- CZ];rfl
@[go_sem] theorem Zez {c xs lo} :VM P H t fr (.p (.list c xs)) (some lo) none none=EQ (Wd P t) c xs (ev fr lo) (.p (.int .i64 (List.length xs))):=by
 simp only [VM,K3]
 cases h:(ev fr lo).isInt with
 | none=>simp [P5 h]
 | some n=>obtain ⟨k,e⟩:=V.isInt_some h;rw [e,<- CZ];rfl
@[go_sem] theorem vB {c xs lo hi} :VM P H t fr (.p (.list c xs)) (some lo) (some hi) none=EQ (Wd P t) c xs (ev fr lo) (ev fr hi):=by
 simp only [VM,K3]
 cases h:(ev fr lo).isInt with
 | none=>simp [P5 h]
 | some n =>
  cases h2:(ev fr hi).isInt with
  | none=>simp [P4 h2]
  | some m=>grind [V.isInt_some,CZ]
@[go_sem] theorem ZhF {α:Type} {f:α->PV} {l:List α} {S c k k' a b} (h0:0<=a) (h1:a<=b) (h2:b<=(l.length:Int)) :
  EQ (some (none,S)) c (l.map f) (.p (.int k a)) (.p (.int k' b))=if EJ S (l.map f)=true then some (.p (.list (c&&decide (b=l.length)) (((l.take b.toNat).drop a.toNat).map f))) else none:=by
 simp_all [EQ]
end
def LQ (P:Program) (d:Option TypeDesc) (x i:V):Option V :=
 match d,x,i with
 | some .string,.p (.str s),.p (.int _ n)=>if 0<=n then (s[n.toNat]?).map fun b=> .p (.int .u8 b.toNat) else none
 | some (.array k e),.p (.agg cs),.p (.int _ n)=>if 0<=n/\n<k then (match YU P e with | some m=>(apart P e cs (n.toNat*m)).map .p | none=>none) else none
 | _,_,_=>none
@[go_sem] theorem Zln {P:Program} {t:TypeId} {x i:V} :LR P t x i=LQ P (P.underlying t) x i:=Zl rfl rfl
@[go_sem] theorem Zef {P:Program} {s:List UInt8} {k n} (h0:0<=n) (h1:n<(s.length:Int)):LQ P (some .string) (.p (.str s)) (.p (.int k n))=some (.p (.int .u8 ((nth s n.toNat).toNat:Nat))):=by
 grind [LQ,Zi]
def It (d:Option TypeDesc) (s:List UInt8) (lo hi:V):Option V:=match d,lo,hi with
 | some .string,.p (.int _ a),.p (.int _ b)=>if 0<=a/\a<=b/\b<=s.length then some (.p (.str ((s.take b.toNat).drop a.toNat))) else none
 | _,_,_=>none
theorem oG {d s lo hi} (h:lo.isInt=none):It d s lo hi=none:=by
 unfold It;grind [V.isInt]
theorem oF {d s lo hi} (h:hi.isInt=none):It d s lo hi=none:=by
 unfold It;grind [V.isInt]
section
variable {P : Program} {H : List Obj} {t : TypeId} {fr : List V}
theorem SG {s:List UInt8} {k k' a b} :(match P.underlying t with | some .string=>(if 0<=a/\a<=b/\b<=(s.length:Int) then some (V.p (.str ((s.take b.toNat).drop a.toNat))) else none) | _=>none)=It (P.underlying t) s (.p (.int k a)) (.p (.int k' b)):=by
 simp only [It]
 grind
@[go_sem] theorem oH {s lo hi} :VM P H t fr (.p (.str s)) (some lo) (some hi) none=It (P.underlying t) s (ev fr lo) (ev fr hi):=by
 simp only [VM,K3]
 cases h:(ev fr lo).isInt with
 | none=>rw [oG h];simp
 | some n =>
  cases h2:(ev fr hi).isInt with
  | none=>rw [oF h2];simp
  | some m =>
   grind [V.isInt_some,SG]
end
@[go_sem low] theorem dA {H:List Obj} {S b xs ys o n} :U5 H (some (S,b)) (.elems S xs) o n (some ys)=if xs.length=n/\Cs S ys=true/\(n+ys.length)*b<=140737488355328/\n+ys.length<=140737488355328 then some (.sl o 0 (n+ys.length) (n+ys.length),FD H o (.elems S (xs++ys))) else none:=by simp [U5]
@[go_sem] theorem Zm9 {H:List Obj} {n f a b f' a' b'} :GR H n (.fn f a b) (.fn f' a' b')=((f'=f/\a'=a/\b'=b)/\refB n (.fn f a b)=true):=by simp [GR,qK]
@[go_sem] theorem Zmr {n f a b} :refB n (.fn f a b)=(Z9 n a&&Z9 n b):=by simp [refB]
@[go_sem] theorem Zn9 {n x} :refB n (.p x)=true:=by simp [refB]
@[go_sem] theorem ZjU {n o off} :refB n (.ptr o off)=decide (o<n):=by simp [refB]
@[go_sem] theorem Zms {n o off l t} :refB n (.sl o off l t)=decide (o<n):=by simp [refB]
@[go_sem] theorem Zff {n} :Z9 n []=true:=by simp [Z9]
@[go_sem] theorem Zdr {n x l} :Z9 n (x::l)=(refB n x&&Z9 n l):=by simp [Z9]
theorem ACalls.useH {P g args H} {v:V} {H2:List Obj} {K:V->List Obj->Prop} (h:ACalls P g args H fun x H'=>x=v/\H'=H2) (k:K v H2):ACalls P g args H K :=
 h.mono (by grind)
theorem BA {α:Type} {f:α->PV} {S:Nat} (h: ∀x,(f x).cells.length=S) (l:List α):EJ S (l.map f)=true:=by
 cases l with
 | nil=>rfl
 | cons x l=>simp [EJ,h]
def Qo (F:Option (Nat×Nat×PV)) (H:List Obj) (x y:V):Option (V×List Obj):=match F,x,y with
 | some (S,by',z),.p (.int .i64 n),.p (.int .i64 m)=>if n=m/\0<=n/\(by':Int)*n<=281474976710656/\n<=281474976710656 then some (.sl H.length 0 n.toNat n.toNat,H++ [.elems S (List.replicate n.toNat z)]) else none
 | _,_,_=>none
theorem EL {P:Program} {t:TypeId} {fr:List V} {H:List Obj} {x y:Operand} {F} (h:RO P t=some F):WN P (.makeSlice t x y) fr H=Qo (some F) H (ev fr x) (ev fr y):=by
 unfold RO at h
 split at h
 ·rename_i e hu
  split at h
  ·rename_i S' z' b h1 h2 h3
   split at h
   ·rename_i hc;simp at h;subst h
    have h3':(P.info? e).map (fun x=>(x.bytes:Int))=some (b:Int):=by
     cases hi:P.info? e with
     | none=>grind
     | some i=>grind
    simp only [WN,hu,h2,hc.1,if_true,PZ,h1,h3'];generalize ev fr x=X;generalize ev fr y=Y
    by_cases hX: ∃n,X= .p (.int .i64 n)
    ·obtain ⟨n,rfl⟩:=hX
     by_cases hY: ∃m,Y= .p (.int .i64 m)
     ·obtain ⟨m,rfl⟩:=hY;simp [Qo,hc.2]
     ·have e1:Qo (some (S',b,z')) H (.p (.int .i64 n)) Y=none:=by
       unfold Qo;grind
      grind
    ·have e1:Qo (some (S',b,z')) H X Y=none:=by
      unfold Qo;grind
     grind
   ·cases h
  ·cases h
 ·cases h
@[go_sem] theorem Zeo {H:List Obj} {S b:Nat} {z n} (h0:0<=n) (h1:(b:Int)*n<=281474976710656) (h2:n<=281474976710656):Qo (some (S,b,z)) H (.p (.int .i64 n)) (.p (.int .i64 n))=some (.sl H.length 0 n.toNat n.toNat,H++ [.elems S (List.replicate n.toNat z)]):=by
 simp_all [Qo]
theorem Zdh (x y:Nat) (hx:x<9223372036854775808) (hy:y<9223372036854775808):IntKind.i64.wrap ((BitVec.ofInt 64 (x:Int)|||BitVec.ofInt 64 (y:Int)).toNat:Int)=((x|||y:Nat):Int):=by
 have e:(BitVec.ofInt 64 (x:Int)|||BitVec.ofInt 64 (y:Int)).toNat=x|||y:=by
  grind
 have h:x|||y<2^63:=Qc Za Za
 grind [IntWalk.i64_in]
theorem nR (x y:Nat) (hx:x<9223372036854775808) (hy:y<9223372036854775808):IntKind.i64.wrap ((BitVec.ofInt 64 (x:Int)&&&BitVec.ofInt 64 (y:Int)).toNat:Int)=((x&&&y:Nat):Int):=by
 grind [Nat.and_le_left,IntWalk.i64_in]
@[go_sem high] theorem cJ {P:Program} {t:TypeId} {x y:Nat} (hx:x<9223372036854775808) (hy:y<9223372036854775808):Yg P .or t (.p (.int .i64 (x:Int))) (.p (.int .i64 (y:Int)))=some (.int .i64 ((x|||y:Nat):Int)):=by
 rw [PU];exact Z5 (fun q=>some (PV.int .i64 q)) (Zdh x y hx hy)
@[go_sem high] theorem GU {P:Program} {t:TypeId} {x y:Nat} (hx:x<9223372036854775808) (hy:y<9223372036854775808):Yg P .and t (.p (.int .i64 (x:Int))) (.p (.int .i64 (y:Int)))=some (.int .i64 ((x&&&y:Nat):Int)):=by
 rw [LJ];exact Z5 (fun q=>some (PV.int .i64 q)) (nR x y hx hy)
def pw (k:Nat):Nat:=2^k
theorem sK (k:Nat):pw (k+1)=2*pw k:=by grind [pw]
theorem DN {k m:Nat} (h:k<=m):pw k<=pw m:=Y1 Za h
theorem lE (k:Nat):0<pw k:=Nat.pow_pos Za
theorem Nu : pw 62=4611686018427387904:=by decide
@[go_sem high] theorem Zd0 {P:Program} {t:TypeId} {k'} {a:Int} (h0:0<=a) (h1:a<=62):Yg P .shl t (.p (.int .i64 1)) (.p (.int k' a))=some (.int .i64 ((pw a.toNat:Nat):Int)):=by
 rw [cL h0]
 have h2:min a.toNat IntKind.i64.bits=a.toNat:=by show min a.toNat 64=a.toNat;omega
 rw [h2,Int.one_mul]
 have h3:((2:Int)^a.toNat)=((pw a.toNat:Nat):Int):=by simp [pw]
 rw [h3];have:=DN (show a.toNat<=62 by omega)
 grind [Nu,IntWalk.i64_in]
attribute [go_sem] List.length_append List.map_append not_false_eq_true not_true_eq_false false_and and_false true_or or_true false_or or_false Classical.not_not Bool.false_eq_true Bool.and_false Bool.false_and
end Go.AM
namespace Go.AM
open Go.RowKit
theorem Ry {P ds frJ H} {K K':List V->Prop} : ∀(l:List Oper) (i:Nat) (vals:List V),(∀ys,ys.length=vals.length+l.length->K ys->K' ys)->hd P ds frJ H K i l vals->hd P ds frJ H K' i l vals
 | [],i,vals,hk,h=>hk vals rfl h
 | o::l,i,vals,hk,h=>by
  have ih: ∀y,hd P ds frJ H K (i+1) l (vals++ [y])->hd P ds frJ H K' (i+1) l (vals++ [y]):=fun y=>Ry l (i+1) (vals++ [y]) fun ys hy=>hk ys (by simp at hy ⊢;omega);simp only [hd] at h ⊢
  split at h
  ·obtain ⟨y,h1,h2⟩:=h;exact ⟨y,h1,ih y h2⟩
  ·unfold XH at h ⊢
   split at h
   ·exact ⟨fun e=>by obtain ⟨y,h1,h2⟩:=h.1 e;exact ⟨y,h1,ih y h2⟩,fun e=>ih _ (h.2 e)⟩
   ·exact ih _ h
   ·exact h.elim
def X8 : List (Option Nat)->List V->List V->List V
 | some d::ds,v::vals,fr=>X8 ds vals (pt fr d v)
 | none::ds,_::vals,fr=>X8 ds vals fr
 | _,_,fr=>fr
def bT (A:V->Prop) (B:V->Prop):Prop:= ∃y,A y/\B y
section
variable {P : Program} {ds : List (Option Nat)} {frJ : List V} {H : List Obj} {K : List V -> Prop} {i : Nat} {r : List Oper} {vals : List V} {d : Option Nat} {op : Op} {t : TypeId} {ps : String} {af : Array Edge}
@[go_sem ↓, go_sem] theorem ZnE {v:V} {B:V->Prop} {t} :bT (fun y=>v=y) (ZB B t)=B v:=by simp [bT,ZB]
def vZ (ds:List (Option Nat)) (vals:List V) (l:List Nat) (fr:List V) (a:Option (Option Nat)) (v:Option V):List V:=match a,v with
 | some (some d),some v=>hset ds vals l (pt fr d v)
 | _,_=>hset ds vals l fr
theorem Zr {f azs} {z:PV} {B:V->Prop} {t} (h:ACalls P f azs [] fun x H'=>x= .p z/\H'= []) (k:B (.p z)) (ha:Z9 0 azs=true:=by rfl) :
  bT (fun y=>ACalls P f azs H (ZB (ZB (fun x H'=>x=y/\H'=H) ⟨⟩) ⟨⟩)) (ZB B t) :=
 ⟨.p z,h.use ⟨rfl,rfl⟩ ha,k⟩
end
section
variable {P : Program} {fr : List V} {H : List Obj} {k : V -> List Obj -> Prop} {d : Option Nat} {t : TypeId} {ps : String} {af : Array Edge} {g : Option (Nat × Bool)}
@[go_sem ↓] theorem xZ {u n l} :ZH P ⟨d,.buildSlice u n (List.toArray l),t,ps,af,g⟩ fr H k=DX ((LU (QB P u) H n (l.map fun x=>(x.1,ev fr x.2))).map .p) (ZB (fun v=>k v H) ⟨⟩):=by
 grind [ZH,DX,ZB]
@[go_sem] theorem xK {S n l} :LU (some S) H n l=if n=l.length/\n*S<=16777216/\0<S then (QU H S 0 l).map (.list false) else none:=Zl rfl rfl
@[go_sem ↓] theorem vE {x} :ZH P ⟨d,.move x,t,ps,af,g⟩ fr H k=Zx P ⟨d,.move x,t,ps,af,g⟩ fr H k:=rfl
@[go_sem ↓] theorem nE {x} :ZH P ⟨d,.assign x,t,ps,af,g⟩ fr H k=Zx P ⟨d,.assign x,t,ps,af,g⟩ fr H k:=rfl
@[go_sem ↓] theorem vF {x y z} :ZH P ⟨d,.pick x y z,t,ps,af,g⟩ fr H k=Zx P ⟨d,.pick x y z,t,ps,af,g⟩ fr H k:=rfl
@[go_sem ↓] theorem oI {x} :ZH P ⟨d,.alloc x,t,ps,af,g⟩ fr H k=Zx P ⟨d,.alloc x,t,ps,af,g⟩ fr H k:=rfl
@[go_sem ↓] theorem xX {x y} :ZH P ⟨d,.box x y,t,ps,af,g⟩ fr H k=Zx P ⟨d,.box x y,t,ps,af,g⟩ fr H k:=rfl
@[go_sem ↓] theorem oK {x y} :ZH P ⟨d,.build x y,t,ps,af,g⟩ fr H k=Zx P ⟨d,.build x y,t,ps,af,g⟩ fr H k:=rfl
@[go_sem ↓] theorem vD {x y} :ZH P ⟨d,.load x y,t,ps,af,g⟩ fr H k=Zx P ⟨d,.load x y,t,ps,af,g⟩ fr H k:=rfl
@[go_sem ↓] theorem oO {x y z} :ZH P ⟨d,.store x y z,t,ps,af,g⟩ fr H k=Zx P ⟨d,.store x y z,t,ps,af,g⟩ fr H k:=rfl
@[go_sem ↓] theorem bO {x} :ZH P ⟨d,.nilCheck x,t,ps,af,g⟩ fr H k=Zx P ⟨d,.nilCheck x,t,ps,af,g⟩ fr H k:=rfl
@[go_sem ↓] theorem oJ {x y z u v} :ZH P ⟨d,.binOp x y z u v,t,ps,af,g⟩ fr H k=Zx P ⟨d,.binOp x y z u v,t,ps,af,g⟩ fr H k:=rfl
@[go_sem ↓] theorem vG {x y z} :ZH P ⟨d,.unOp x y z,t,ps,af,g⟩ fr H k=Zx P ⟨d,.unOp x y z,t,ps,af,g⟩ fr H k:=rfl
@[go_sem ↓] theorem dF {x y z} :ZH P ⟨d,.convert x y z,t,ps,af,g⟩ fr H k=Zx P ⟨d,.convert x y z,t,ps,af,g⟩ fr H k:=rfl
@[go_sem ↓] theorem bN {x y z} :ZH P ⟨d,.makeFunc x y z,t,ps,af,g⟩ fr H k=Zx P ⟨d,.makeFunc x y z,t,ps,af,g⟩ fr H k:=rfl
@[go_sem ↓] theorem SJ {x y z} :ZH P ⟨d,.makeSlice x y z,t,ps,af,g⟩ fr H k=Zx P ⟨d,.makeSlice x y z,t,ps,af,g⟩ fr H k:=rfl
@[go_sem ↓] theorem oN {x y z u v} :ZH P ⟨d,.slice x y z u v,t,ps,af,g⟩ fr H k=Zx P ⟨d,.slice x y z u v,t,ps,af,g⟩ fr H k:=rfl
@[go_sem ↓] theorem SH {x y z} :ZH P ⟨d,.fieldAddr x y z,t,ps,af,g⟩ fr H k=Zx P ⟨d,.fieldAddr x y z,t,ps,af,g⟩ fr H k:=rfl
@[go_sem ↓] theorem oL {x y z} :ZH P ⟨d,.field x y z,t,ps,af,g⟩ fr H k=Zx P ⟨d,.field x y z,t,ps,af,g⟩ fr H k:=rfl
@[go_sem ↓] theorem SI {x y z} :ZH P ⟨d,.indexAddr x y z,t,ps,af,g⟩ fr H k=Zx P ⟨d,.indexAddr x y z,t,ps,af,g⟩ fr H k:=rfl
@[go_sem ↓] theorem oM {x y z} :ZH P ⟨d,.index x y z,t,ps,af,g⟩ fr H k=Zx P ⟨d,.index x y z,t,ps,af,g⟩ fr H k:=rfl
@[go_sem ↓] theorem dG {x y} :ZH P ⟨d,.extract x y,t,ps,af,g⟩ fr H k=Zx P ⟨d,.extract x y,t,ps,af,g⟩ fr H k:=rfl
@[go_sem ↓] theorem vC {x y z} :ZH P ⟨d,.call ⟨.value x,y,z⟩,t,ps,af,g⟩ fr H k=Zx P ⟨d,.call ⟨.value x,y,z⟩,t,ps,af,g⟩ fr H k:=rfl
@[go_sem ↓] theorem xY {y z} :ZH P ⟨d,.call ⟨.builtin .len,y,z⟩,t,ps,af,g⟩ fr H k=Zx P ⟨d,.call ⟨.builtin .len,y,z⟩,t,ps,af,g⟩ fr H k:=rfl
@[go_sem ↓] theorem yA {y z} :ZH P ⟨d,.call ⟨.builtin .max,y,z⟩,t,ps,af,g⟩ fr H k=Zx P ⟨d,.call ⟨.builtin .max,y,z⟩,t,ps,af,g⟩ fr H k:=rfl
@[go_sem ↓] theorem yB {y z} :ZH P ⟨d,.call ⟨.builtin .min,y,z⟩,t,ps,af,g⟩ fr H k=Zx P ⟨d,.call ⟨.builtin .min,y,z⟩,t,ps,af,g⟩ fr H k:=rfl
theorem Iv {o fr' H'} (h:fr=fr') (h2:H=H'):ZH P o fr H k=ZH P o fr' H' k:=by rw [h,h2]
end
attribute [congr] Iv
attribute [go_sem] List.filter_cons List.filter_nil
end Go.AM
namespace Go.AM
open Go.RowKit
mutual
/-- no memory in it -/
def OT : PV->Bool
 | .list _ xs=>xs.isEmpty
 | .agg cs=>DH cs
 | _=>true
def DH : List PV->Bool
 | []=>true
 | x::l=>OT x&&DH l
end
theorem Ae : ∀ {l:List PV},DH l=true-> ∀(j:Nat) (x:PV),l[j]? =some x->OT x=true
 | [],_,j,x,h=>by simp at h
 | y::l,hh,j,x,h=>by
  simp [DH] at hh
  cases j with
  | zero=>simp at h;subst h;exact hh.1
  | succ j=>exact Ae hh.2 j x (by simpa using h)
theorem RP.anywhere {X X':Nat->Prop} {w w' x v} (h:RP X w x v) (hf:OT x=true):RP X' w' x v:=by
 induction h with
 | int k n=>exact .int k n
 | bool b=>exact .bool b
 | str s=>exact .str s
 | nilp=>exact .nilp
 | nili=>exact .nili
 | nilf=>exact .nilf
 | nilm=>exact .nilm
 | fn f=>exact .fn f
 | nils cl=>exact .nils cl
 | emp cl a cap hc hm ha=>exact .emp cl a cap hc hm ha
 | list cl xs b off cap S u hX hb hc hm hcl hS hu hr ih =>
  have:xs= []:=by grind [OT]
  subst this;exact .emp cl _ cap (fun h=>by grind) hm (fun _ x hx=>by grind)
 | agg cs a hs _ ih=>exact .agg cs a hs fun j c hj=>ih j c hj (Ae (by grind [OT]) j c hj)
def vw (H:List Obj):V->Option V
 | .p x=>some (.p x)
 | .fn f [] []=>some (.fn f [] [])
 | .sl o off len tot=>match oat H o with
  | .elems _ xs=>if xs.length=tot/\off+len<=tot then some (.p (.list false ((xs.take (off+len)).drop off))) else none
  | _=>none
 | _=>none
def vws (H:List Obj):List V->Option (List V)
 | []=>some []
 | x::l=>match vw H x,vws H l with | some y,some ys=>some (y::ys) | _,_=>none
abbrev AN : Nat->Prop:=fun _=>False
theorem Cv {b:Nat} : ¬Own AN [] b:=by simp [Own]
theorem ZjX {F H ι w x v y} (hr:Rel F H ι w) (h:RV F H ι w x v) (hy:vw H x=some y):RV AN [] [] w y v:=by
 unfold vw at hy
 split at hy
 ·simp at hy;subst hy
  cases h with | p _ _ h=>exact .p _ _ (h.weaker fun b hb=>absurd hb Cv)
 ·simp at hy;subst hy;generalize v=u at h
  cases h with
  | fn _ _ _ a e hs ht _ _=>exact .fn _ [] [] a e hs ht (fun j c hj=>by simp at hj) (fun j c hj=>by simp at hj)
 ·rename_i o off len tot
  split at hy
  ·rename_i S xs ho
   split at hy
   ·rename_i hc;simp at hy;subst hy;exact .p _ _ (Bn _ (fun b _ hb=>Cv hb) (fun b _ hs=>⟨Cv,hs,rfl⟩) hr (Z8 ho Zb) hc.1 hc.2 h)
   ·cases hy
  ·cases hy
 ·cases hy
theorem Sn {H} : ∀ {l l':List V},vws H l=some l'->l'.length=l.length/\ ∀(j:Nat) (y:V),l'[j]? =some y-> ∃x,l[j]? =some x/\vw H x=some y
 | [],l',h=>by simp [vws] at h;grind
 | x::l,l',h=>by
  simp only [vws] at h
  split at h
  ·rename_i y ys h1 h2;simp at h;subst h;obtain ⟨e,hg⟩:=Sn h2;refine ⟨by simp [e],fun j z hj=> ?_⟩
   cases j with
   | zero=>simp at hj;subst hj;exact ⟨x,Zb,h1⟩
   | succ j=>obtain ⟨q,q1,q2⟩:=hg j z (by simpa using hj);exact ⟨q,by simpa using q1,q2⟩
  ·cases h
theorem Good.lift {F H ι w H1 ι1 w'} (hr:Rel F H ι w) (g:Good AN [] [] w H1 ι1 w') (h1: ∀(o:Nat) (ob:Obj),H1[o]? =some ob-> ∃S xs,ob= .elems S xs/\DH xs=true):Good (Own F ι) [] [] w H1 ι1 w':=by
 have hnew: ∀b,some b∈ι1-> ¬b<w.heap.size:=fun b hb hlt=>g.own b hlt Zb hb
 have hold: ∀b,Own F ι b->b<w.heap.size:=fun b hb=>by
  rcases hb with hb | hb
  ·exact hr.fin b hb
  ·obtain ⟨i,hi⟩:=Xd.1 hb;exact (hr.avo i b hi).2
 refine Good.up hr.env.fresh ⟨⟨g.rel.len,fun b hb=>by have:=hold b hb;have:=g.size;omega,g.rel.inj,fun i b hi=> ?_,fun o cs ho=> ?_,fun o S xs ho=> ?_,fun o es ho=>(by grind),fun o T E r bs ho=>(by grind)⟩,g.os,g.tape,g.output,g.shape,g.size,g.keep,g.own,g.hx⟩
 ·refine ⟨fun hb=>hnew b (Xz hi) (hold b hb),(g.rel.avo i b hi).2⟩
 ·grind
 ·rcases g.rel.elm o S xs ho with e | ⟨b,c,t,cap,e1,e2,e3,e4,e5,e6,e7⟩
  ·exact .inl e
  ·refine .inr ⟨b,c,t,cap,e1,e2,e3,e4,e5,e6,fun i x j y hi hj=> ?_⟩;obtain ⟨S',xs',e,hf⟩:=h1 o _ ho;simp at e;obtain ⟨rfl,rfl⟩:=e;have hx:=Ae hf i x hi;refine (e7 i x j y hi hj).anywhere ?_
   cases x<;>simp only [PV.cells] at hj
   case agg cs=>grind [Ae,OT]
   all_goals (cases j with
    | zero=>simp at hj;subst hj;exact hx
    | succ j=>simp at hj)
theorem FN {w:World} (he:Env AN [] w):Rel AN [] [] w:=⟨⟨rfl,fun b hb=>hb.elim,fun i j b hi=>by simp at hi,fun i b hi=>by simp at hi,fun o cs ho=>by simp at ho,fun o S xs ho=>by simp at ho,fun o es ho=>by simp at ho,fun o T E r bs ho=>by simp at ho⟩,he⟩
theorem ACalls.viewF {P g args args'} {S n:Nat} {xs:List PV} {H:List Obj} {K:V->List Obj->Prop} (h:ACalls P g args' [] fun x H'=>x= .sl 0 0 n n/\H'= [.elems S xs]) (hv:vws H args=some args') (hy:DH xs=true) (k:K (.sl H.length 0 n n) (H++ [.elems S xs])):ACalls P g args H K:=by
 refine ⟨h.1,fun F ι w vs hr hvs=> ?_⟩;obtain ⟨e,hg⟩:=Sn hv;refine (h.2 AN [] w vs (FN hr.env.noth) ⟨by rw [hvs.1,e],fun j c hj=> ?_⟩).mono ?_
 ·obtain ⟨x,h1,h2⟩:=hg j c hj;exact ZjX hr (hvs.2 j x h1) h2
 ·rintro e w' ⟨x,H',ι',v,rfl,⟨rfl,rfl⟩,gd,rv⟩
  have gl:=gd.lift hr (fun o ob ho=>by
   grind)
  have g2:=gl.behind hr
  have rv2:RV (Own F ι) [.elems S xs] ι' w' (.sl 0 0 n n) v:=by
   cases rv with
   | slNil _ S a h3 h2=>exact .slNil _ S a h3 h2
   | sl _ _ _ _ b S cap t xs c h1 h2 ht hw hcap hl hlen hm=>exact .sl _ _ _ _ b S cap t xs c h1 h2 ht hw hcap hl hlen hm
   | slD _ _ _ _ _ h1=>simp at h1
   | slS _ _ _ _ _ S xs h1 hne=>exact .slS _ _ _ _ _ S xs h1 hne
   | slC _ _ _ _ _ _ h1=>simp at h1
  exact ⟨_,_,_,v,rfl,by simpa [shV,shO] using k,g2,by simpa [shV] using rv2.sh hr.len⟩
def rd1 (H:List Obj):V->Option PV
 | .p x=>some x
 | .sl o off len tot=>match oat H o with
  | .elems _ xs=>if xs.length=tot/\off+len<=tot then some (.list false ((xs.take (off+len)).drop off)) else none
  | _=>none
 | _=>none
def rds (H:List Obj):List V->Option (List PV)
 | []=>some []
 | x::l=>match rd1 H x,rds H l with | some y,some ys=>some (y::ys) | _,_=>none
def rd (H:List Obj):V->Option PV
 | .agg cs=>(rds H cs).map .agg
 | x=>rd1 H x
attribute [go_sem] Option.map_none
end Go.AM
namespace Go.Proofs.YtiigdaohjanidaaGreatDoor.K
open Go Go.AM
def Ed (be:List (Int×Int)) (a b:Nat):Prop:= ∃p∈be,p.1=(a:Int)/\p.2=(b:Int)
inductive Ch (be:List (Int×Int)):Nat->Nat->Prop where
 | one {a b} (h:Ed be a b):Ch be a b
 | more {a b c} (h:Ch be a b) (k:Ed be b c):Ch be a c
def Val (n:Nat) (be:List (Int×Int)):Prop:= ∀p∈be,0<=p.1/\p.1<n/\0<=p.2/\p.2<n
theorem Gc (a b:Nat):(pw a).testBit b=decide (a=b):=by grind [pw]
def tot (l:List Nat):Nat:=l.foldr (· + ·) 0
theorem xF {s b:Nat} (h:s.testBit b=false) (j:Nat):(s+pw b).testBit j=(s.testBit j||decide (b=j)):=by
 have e1:s=2^(b+1)*(s / 2^(b+1))+s%2^(b+1):=(Nat.div_add_mod _ _).symm;have e2:s%2^(b+1)<2^(b+1):=Qf _ (Nat.two_pow_pos _)
 have e3:s%2^(b+1)<2^b:=by
  rw [Da] at h;simp at h
  have h1:s%2^(b+1)=s%2^b+2^b*(s / 2^b%2):=by rw [Nat.pow_succ,Nat.mod_mul]
  rw [h1,h,Nat.mul_zero,Wu];omega
 generalize s / 2^(b+1)=q at e1;generalize s%2^(b+1)=r at e1 e2 e3
 have hp:2^(b+1)=2^b+2^b:=Za
 have e4:s+pw b=2^(b+1)*q+(2^b*1+r):=by grind [pw]
 rw [e4,Nat.testBit_two_pow_mul_add _ Za,e1,Nat.testBit_two_pow_mul_add _ e2]
 by_cases hj:j<b+1
 ·simp only [hj,if_true];rw [Nat.testBit_two_pow_mul_add _ e3]
  grind
 grind
def VH (p:Nat->Bool):Nat->Nat
 | 0=>0
 | k+1=>if p k then VH p k+pw k else VH p k
theorem CK (p:Nat->Bool): ∀k,VH p k<pw k
 | 0=>by simp [VH,pw]
 | k+1=>by
  have:=CK p k
  grind [sK,VH]
theorem Dx (p:Nat->Bool): ∀k j,(VH p k).testBit j=(decide (j<k)&&p j)
 | 0,j=>by simp [VH]
 | k+1,j=>by
  have hb:(VH p k).testBit k=false:=Aj (CK p k);simp only [VH]
  split
  ·rename_i hp;rw [xF hb,Dx p k j]
   grind
  ·rename_i hp;rw [Dx p k j]
   grind
def cls (fr s:Nat) (p:Int×Int):Prop:=(p.1.toNat=fr\/s.testBit p.1.toNat=true)->s.testBit p.2.toNat=true
end Go.Proofs.YtiigdaohjanidaaGreatDoor.K
