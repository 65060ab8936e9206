/- Declarations that the closing texts need, part 4: joined by tools/slim.py. -/
import Derived.Test.YtiigdaohjanidaaGreatDoorI3
set_option linter.unusedVariables false
set_option linter.unusedSimpArgs false
universe u
namespace Go.AM
open Go.RowKit
structure Tk {α:Sort u} (a:α):Type where
def Zt {α:Sort u} (a:α) (_:Tk a):α:=a
@[go_sem] theorem Zdw {α β:Type} {f:α->β} {t x} :Zt f t x=f x:=Zh rfl rfl
@[go_sem ↓] theorem Zdx {α β:Type} {f:α->β->Prop} {t x y} :Zt f t x y=f x y:=Zh rfl rfl
@[go_sem ↓] theorem Zdy {α β γ:Type} {f:α->β->γ->Prop} {t x y z} :Zt f t x y z=f x y z:=Zh rfl rfl
def A2 (x:Option V) (K:V->Prop):Prop:=match x with | some v=>K v | none=>False
def AC (x:Option (V×List Obj)) (K:V->List Obj->Prop):Prop:=match x with | some (v,H)=>K v H | none=>False
def bst (x:V) (K:Bool->Prop):Prop:=match x with | .p (.bool b)=>K b | _=>False
def hst (x:Option (List Obj)) (K:List Obj->Prop):Prop:=match x with | some H=>K H | none=>False
@[go_sem ↓, go_sem] theorem Zig {v K} :A2 (some v) K=K v:=Zh rfl rfl
@[go_sem ↓, go_sem] theorem ZhX {v H K} :AC (some (v,H)) K=K v H:=Zh rfl rfl
@[go_sem ↓, go_sem] theorem Zhc {H K} :hst (some H) K=K H:=Zh rfl rfl
@[congr] theorem ZdQ {x x' K} (h:x=x'):A2 x K=A2 x' K:=by rw [h]
@[congr] theorem ZdJ {x x' K} (h:x=x'):AC x K=AC x' K:=by rw [h]
@[congr] theorem ZdB {x x' K} (h:x=x'):hst x K=hst x' K:=by rw [h]
def idF (fr:List V):List V:=fr
@[go_sem] theorem Zmo {fr} :idF fr=fr:=Zh rfl rfl
section code
variable {cuts : List Nat} {P : Program} {fr : List V} {H : List Obj} {Q : Exit -> List V -> List Obj -> Prop}
@[go_sem ↓] theorem Zdj : Jh cuts P .skip fr H Q=Q .normal fr H:=Zh rfl rfl
@[go_sem ↓] theorem sI {id} {l:List Oper} :Jh cuts P (.region id l.toArray false) fr H Q=YC P (l.map (·.dst)) l (idF fr) H (Zt (Q .normal) ⟨⟩):=by rfl
@[go_sem ↓] theorem vK {id ops} :Jh cuts P (.region id ops true) fr H Q=AWP P (.region id (Zt ops ⟨⟩) true) fr H (Zt Q ⟨⟩):=by rfl
@[go_sem ↓] theorem Zgy {x y} :Jh [] P (.seq x y) fr H Q=Jh [] P x fr H (Q3 (fun fr H=>Jh [] P y fr H Q) Q):=by
 grind [Jh]
def iM (b:Bool) (A B:Prop):Prop:=if b then A else B
def Lc (cuts:List Nat):Option Nat->Bool
 | some i=>cuts.contains i
 | none=>false
@[go_sem ↓] theorem Zdi {k x y} :Jh (k::cuts) P (.seq x y) fr H Q=iM (Lc (k::cuts) (LD x)) (Zt (AWP P (.seq (Zt x ⟨⟩) (Zt y ⟨⟩)) fr H (Zt Q ⟨⟩)) ⟨⟩) (Zt (Jh (k::cuts) P x fr H (Q3 (fun fr H=>Jh (k::cuts) P y fr H Q) Q)) ⟨⟩):=by
 rfl
@[go_sem ↓, go_sem] theorem ZdW {A B:Prop} {t} :iM true (Zt A t) B=A:=by rfl
@[go_sem ↓, go_sem] theorem Zb1 {A B:Prop} {t} :iM false A (Zt B t)=B:=by rfl
theorem Oj {b b' A B} (h:b=b'):iM b A B=iM b' A B:=by rw [h]
@[go_sem ↓] theorem wX {id ops d} :LD (.region id ops d)=some id:=Zh rfl rfl
@[go_sem ↓] theorem Zks {x y} :LD (.seq x y)=LD x:=Zh rfl rfl
@[go_sem ↓] theorem Zdv {id c} :LD (.block id c)=LD c:=Zh rfl rfl
@[go_sem ↓] theorem Zg7 {c x y} :LD (.cond c x y)=none:=Zh rfl rfl
@[go_sem ↓] theorem Zg9 {c} :LD (.loop c)=none:=Zh rfl rfl
@[go_sem] theorem wH : Lc cuts none=false:=Zh rfl rfl
@[go_sem] theorem Zdp {i} :Lc [] (some i)=false:=Zh rfl rfl
@[go_sem] theorem wG {k i} :Lc (k::cuts) (some i)=(decide (i=k)||Lc cuts (some i)):=by rfl
@[go_sem ↓] theorem Zde {c x y} :Jh cuts P (.cond c x y) fr H Q=VH (ev fr c) (Zt (Jh cuts P x fr H Q) ⟨⟩) (Zt (Jh cuts P y fr H Q) ⟨⟩):=Zh rfl rfl
@[go_sem ↓] theorem vJ {id c} :Jh cuts P (.block id c) fr H Q=Jh cuts P c fr H (Uy id Q):=Zh rfl rfl
@[go_sem ↓] theorem Zdf {id} :Jh cuts P (.exit id) fr H Q=Q (.exit id) fr H:=Zh rfl rfl
@[go_sem ↓] theorem Zgx : Jh cuts P .ret fr H Q=Q .ret fr H:=Zh rfl rfl
@[go_sem ↓] theorem Zdh {c} :Jh cuts P (.loop c) fr H Q=AWP P (.loop (Zt c ⟨⟩)) fr H (Zt Q ⟨⟩):=Zh rfl rfl
@[go_sem ↓] theorem Zdg {c t} :Jh cuts P (Zt c t) fr H Q=Jh cuts P c fr H Q:=Zh rfl rfl
theorem RD {c fr' H'} (h:fr=fr') (h2:H=H'):Jh cuts P c fr H Q=Jh cuts P c fr' H' Q:=by rw [h,h2]
theorem Rh {c fr' H'} (h:fr=fr') (h2:H=H'):AWP P c fr H Q=AWP P c fr' H' Q:=by rw [h,h2]
@[go_sem ↓] theorem pW {A:List V->List Obj->Prop} :Q3 A Q .normal fr H=A fr H:=Zh rfl rfl
@[go_sem ↓] theorem Zb8 {A:List V->List Obj->Prop} {id} :Q3 A Q (.exit id) fr H=Q (.exit id) fr H:=Zh rfl rfl
@[go_sem ↓] theorem ZeO {A:List V->List Obj->Prop} :Q3 A Q .ret fr H=Q .ret fr H:=Zh rfl rfl
@[go_sem ↓] theorem jX {id} :Uy id Q .normal fr H=Q .normal fr H:=Zh rfl rfl
@[go_sem ↓] theorem vO {id} :Uy id Q .ret fr H=Q .ret fr H:=Zh rfl rfl
@[go_sem ↓] theorem sL {id id'} :Uy id Q (.exit id') fr H=if id'=id then Q .normal fr H else Q (.exit id') fr H:=Zh rfl rfl
theorem MK {A:List V->List Obj->Prop} {e fr' H'} (h:fr=fr') (h2:H=H'):Q3 A Q e fr H=Q3 A Q e fr' H':=by rw [h,h2]
theorem Hw {id e fr' H'} (h:fr=fr') (h2:H=H'):Uy id Q e fr H=Uy id Q e fr' H':=by rw [h,h2]
@[go_sem ↓] theorem tL {rs} {Q:V->List Obj->Prop} :JV P rs Q .normal fr H=AC ((Yy P fr H rs).map fun xs=>(Vk xs,H)) (Zt Q ⟨⟩):=by
 simp only [JV,Zt];grind [AC]
@[go_sem ↓] theorem Zil {rs} {Q:V->List Obj->Prop} :JV P rs Q .ret fr H=AC ((Yy P fr H rs).map fun xs=>(Vk xs,H)) (Zt Q ⟨⟩):=by
 simp only [JV,Zt];grind [AC]
theorem Of {rs e fr' H'} {Q:V->List Obj->Prop} (h:fr=fr') (h2:H=H'):JV P rs Q e fr H=JV P rs Q e fr' H':=by rw [h,h2]
@[go_sem] theorem ZbW : Yy P fr H []=some []:=Zh rfl rfl
@[go_sem] theorem ZbX {t l} :Yy P fr H (.tmp t::l)=(Yy P fr H l).map (gt fr t:: ·):=by
 simp only [Yy,SX];cases Yy P fr H l<;>rfl
@[go_sem] theorem tJ {a t l} :Yy P fr H (.cell a t::l)=(QG P H t (gt fr a)).bind fun x=>(Yy P fr H l).map (x:: ·):=by
 simp only [Yy,SX];cases QG P H t (gt fr a)<;>cases Yy P fr H l<;>rfl
@[go_sem] theorem ZbY {x} :Vk [x]=x:=Zh rfl rfl
@[go_sem] theorem tK : Vk []= .tup []:=Zh rfl rfl
@[go_sem] theorem Oe {x y l} :Vk (x::y::l)= .tup (x::y::l):=Zh rfl rfl
end code
attribute [congr] Oj RD Rh MK Hw Of
@[go_sem] theorem Zkq {x:V} {l} :gt (x::l) 0=x:=Zh rfl rfl
@[go_sem] theorem Zkp {x:V} {l n} :gt (x::l) (n+1)=gt l n:=Zh rfl rfl
@[go_sem] theorem Zml {n} :gt [] n= .junk:=Zh rfl rfl
@[go_sem] theorem ZkO {x v:V} {l} :pt (x::l) 0 v=v::l:=Zh rfl rfl
@[go_sem] theorem ZkN {x v:V} {l n} :pt (x::l) (n+1) v=x::pt l n v:=Zh rfl rfl
@[go_sem] theorem Zii {fr d v} :Y9 fr (some d) v=pt fr d v:=Zh rfl rfl
@[go_sem] theorem Zih {fr v} :Y9 fr none v=fr:=Zh rfl rfl
@[go_sem] theorem Zh3 {x:Obj} {l} :oat (x::l) 0=x:=Zh rfl rfl
@[go_sem] theorem Zh2 {x:Obj} {l n} :oat (x::l) (n+1)=oat l n:=Zh rfl rfl
@[go_sem] theorem Zib {x v:Obj} {l} :EV (x::l) 0 v=v::l:=Zh rfl rfl
@[go_sem] theorem Zia {x v:Obj} {l n} :EV (x::l) (n+1) v=x::EV l n v:=Zh rfl rfl
@[go_sem] theorem Zke {fr t} :evx fr (.tmp t)=gt fr t:=Zh rfl rfl
@[go_sem] theorem wN {fr g} :evx fr (.global g)=dM g:=Zh rfl rfl
@[go_sem] theorem Zl9 {fr t} :ev fr (.tmp t)=gt fr t:=Zh rfl rfl
@[go_sem] theorem Zkb {fr f} :ev fr (.func f)= .fn (.func f) [] []:=Zh rfl rfl
@[go_sem] theorem Zl7 {fr k n} :ev fr (.const (.int k n))= .p (.int k n):=Zh rfl rfl
@[go_sem] theorem Zka {fr b} :ev fr (.const (.bool b))= .p (.bool b):=Zh rfl rfl
@[go_sem] theorem Zl8 {fr s} :ev fr (.const (.string s))= .p (.str s.data.toList):=Zh rfl rfl
@[go_sem] theorem Zkd {fr} :ev fr (.const (.slice none 0 0))= .p (.list true []):=Zh rfl rfl
@[go_sem] theorem Zkc {fr} :ev fr (.const (.pointer none))= .p .nilp:=Zh rfl rfl
@[go_sem] theorem Zl6 {fr l} :ev fr (.const (.agg (List.toArray l)))=match wJ l with | some xs=> .p (.agg xs) | none=> .junk:=Zh rfl rfl
@[go_sem] theorem Zg1 {fr d} {l:List (Option Nat)} :Cl fr (some d::l) 0=gt fr d:=by simp [Cl]
@[go_sem] theorem Zg0 {fr o n} {l:List (Option Nat)} :Cl fr (o::l) (n+1)=Cl fr l n:=by simp [Cl]
section ops
variable {P : Program} {fr : List V} {H : List Obj} {ds : List (Option Nat)} {K : List V -> List Obj -> Prop} {r : List Oper} {d : Option Nat} {t : TypeId} {ps : String} {af : Array Edge} {g : Option (Nat × Bool)} {k : V -> List Obj -> Prop}
theorem Nh {l fr' H'} (h:fr=fr') (h2:H=H'):YC P ds l fr H K=YC P ds l fr' H' K:=by rw [h,h2]
theorem IT {o fr' H'} (h:fr=fr') (h2:H=H'):Zr P o fr H k=Zr P o fr' H' k:=by rw [h,h2]
@[go_sem ↓] theorem Zgm : YC P ds [] fr H K=K fr H:=Zh rfl rfl
@[go_sem] theorem ZcY {op} :YC P ds (⟨d,op,t,ps,af,none⟩::r) fr H K=Zr P ⟨d,op,t,ps,af,none⟩ fr H (Zt (fun x H'=>YC P ds r (Y9 fr d x) H' K) ⟨⟩):=Zh rfl rfl
@[go_sem] theorem uL {op j b} :YC P ds (⟨d,op,t,ps,af,some (j,b)⟩::r) fr H K=Xv (Cl fr ds j) b (Zt (Zr P ⟨d,op,t,ps,af,none⟩ fr H (Zt (fun x H'=>YC P ds r (Y9 fr d x) H' K) ⟨⟩)) ⟨⟩) (Zt (YC P ds r (Y9 fr d (.tup [])) H K) ⟨⟩):=by
 rfl
theorem XG {op:Op} (h:YD op=none) (h2:Wn P op fr H=none):Zr P ⟨d,op,t,ps,af,g⟩ fr H k=A2 (Z3 P op fr H) fun x=>k x H:=by
 simp only [Zr,h,Hk,h2]
 all_goals (cases Z3 P op fr H<;>rfl)
theorem RB {op:Op} (h:YD op=none) (h2:Z3 P op fr H=none):Zr P ⟨d,op,t,ps,af,g⟩ fr H k=AC (Wn P op fr H) k:=by
 grind [Zr,Hk,AC]
@[go_sem ↓] theorem vD {x} :Zr P ⟨d,.move x,t,ps,af,g⟩ fr H k=k (ev fr x) H:=by rfl
@[go_sem ↓] theorem lJ {x} :Zr P ⟨d,.assign x,t,ps,af,g⟩ fr H k=k (ev fr x) H:=by rfl
def vif (b:Bool) (x y:V):V:=if b then x else y
@[go_sem] theorem Zjq {x y} :vif true x y=x:=Zh rfl rfl
@[go_sem] theorem ZeQ {x y} :vif false x y=y:=Zh rfl rfl
@[go_sem] theorem Zjp {b x y} :vif b (.p (.bool x)) (.p (.bool y))= .p (.bool (if b then x else y)):=by cases b<;>rfl
@[go_sem] theorem Zgr {b} :uT (.p (.bool b))=some b:=Zh rfl rfl
@[go_sem ↓] theorem vF {c x y} :Zr P ⟨d,.pick c x y,t,ps,af,g⟩ fr H k=A2 ((uT (ev fr c)).map fun b=>vif b (ev fr x) (ev fr y)) (Zt (fun v=>k v H) ⟨⟩):=by
 rw [XG rfl rfl];simp only [Z3,X1]
 cases uT (ev fr c)<;>rfl
@[go_sem ↓] theorem vC {u x} :Zr P ⟨d,.load u x,t,ps,af,g⟩ fr H k=A2 (QG P H u (ev fr x)) (Zt (fun v=>k v H) ⟨⟩):=by rw [XG rfl rfl];rfl
@[go_sem ↓] theorem aF {x} :Zr P ⟨d,.nilCheck x,t,ps,af,g⟩ fr H k=A2 (if YZ H (ev fr x)||dX (ev fr x) then some (ev fr x) else none) (Zt (fun v=>k v H) ⟨⟩):=by rw [XG rfl rfl];rfl
@[go_sem ↓] theorem Zc7 {op u x y u2} :Zr P ⟨d,.binOp op u x y u2,t,ps,af,g⟩ fr H k=A2 ((Yb P op u (ev fr x) (ev fr y)).map .p) (Zt (fun v=>k v H) ⟨⟩):=by rw [XG rfl rfl];rfl
@[go_sem ↓] theorem Zgv {op u x} :Zr P ⟨d,.unOp op u x,t,ps,af,g⟩ fr H k=A2 ((aun op (ev fr x)).map .p) (Zt (fun v=>k v H) ⟨⟩):=by rw [XG rfl rfl];rfl
def fJ (x y:Option PV):Option PV:=match x with | some z=>some z | none=>y
@[go_sem] theorem ZbC {z y} :fJ (some z) y=some z:=Zh rfl rfl
@[go_sem] theorem ZbB {y} :fJ none y=y:=Zh rfl rfl
@[go_sem ↓] theorem vB {s u x} :Zr P ⟨d,.convert s u x,t,ps,af,g⟩ fr H k=A2 ((fJ (Cn P H s u (ev fr x)) (IG P s u (ev fr x))).map .p) (Zt (fun v=>k v H) ⟨⟩):=by
 rw [XG rfl rfl];simp only [Z3,X1]
 cases Cn P H s u (ev fr x)<;>rfl
@[go_sem ↓] theorem aD {f cs es} :Zr P ⟨d,.makeFunc f (List.toArray cs) (List.toArray es),t,ps,af,g⟩ fr H k=k (.fn f (cs.map (ev fr)) (es.map (ev fr))) H:=by rfl
@[go_sem ↓] theorem sG {u x lo hi mx} :Zr P ⟨d,.slice u x lo hi mx,t,ps,af,g⟩ fr H k=A2 (WQ P H u fr (ev fr x) lo hi mx) (Zt (fun v=>k v H) ⟨⟩):=by rw [XG rfl rfl];rfl
@[go_sem ↓] theorem Tz {s x f} :Zr P ⟨d,.fieldAddr s x f,t,ps,af,g⟩ fr H k=A2 (Jb P H s f (ev fr x)) (Zt (fun v=>k v H) ⟨⟩):=by rw [XG rfl rfl];rfl
@[go_sem ↓] theorem TA {u x i} :Zr P ⟨d,.indexAddr u x i,t,ps,af,g⟩ fr H k=A2 (Qh P H u (evx fr x) (ev fr i)) (Zt (fun v=>k v H) ⟨⟩):=by rw [XG rfl rfl];rfl
@[go_sem ↓] theorem sF {u x i} :Zr P ⟨d,.index u x i,t,ps,af,g⟩ fr H k=A2 (IJ P u (ev fr x) (ev fr i)) (Zt (fun v=>k v H) ⟨⟩):=by rw [XG rfl rfl];rfl
def axt (x:V) (i:Nat):Option V:=match x with | .tup vs=>vs[i]? | _=>none
@[go_sem] theorem ZjV {vs i} :axt (.tup vs) i=vs[i]? :=Zh rfl rfl
@[go_sem ↓] theorem jV {x i} :Zr P ⟨d,.extract x i,t,ps,af,g⟩ fr H k=A2 (axt (ev fr x) i) (Zt (fun v=>k v H) ⟨⟩):=by
 rw [XG rfl rfl]
 rfl
@[go_sem ↓] theorem sE {u l} :Zr P ⟨d,.build u (List.toArray l),t,ps,af,g⟩ fr H k=A2 (D1 P H u (l.map fun x=>(x.1,ev fr x.2))) (Zt (fun v=>k v H) ⟨⟩):=by rw [XG rfl rfl];rfl
@[go_sem ↓] theorem Zc9 {x u} :Zr P ⟨d,.call ⟨.builtin .len,#[x],#[u]⟩,t,ps,af,g⟩ fr H k=A2 ((T2 P H u (ev fr x)).map .p) (Zt (fun v=>k v H) ⟨⟩):=by rw [XG rfl rfl];rfl
@[go_sem ↓] theorem Zda {x y us} :Zr P ⟨d,.call ⟨.builtin .max,#[x,y],us⟩,t,ps,af,g⟩ fr H k=A2 ((Hh false [ev fr x,ev fr y]).map .p) (Zt (fun v=>k v H) ⟨⟩):=by
 rw [XG rfl rfl];rfl
@[go_sem ↓] theorem sD {u} :Zr P ⟨d,.alloc u,t,ps,af,g⟩ fr H k=AC ((Xm P u).map fun zs=>(.ptr H.length 0,H++ [.cells (zs.map .p)])) (Zt k ⟨⟩):=by rfl
@[go_sem ↓] theorem Zc8 {u x} :Zr P ⟨d,.box u x,t,ps,af,g⟩ fr H k=AC ((vc H (ev fr x)).map fun cs=>(.ptr H.length 0,H++ [.cells cs])) (Zt k ⟨⟩):=by rfl
def vH (H:List Obj) (n:Option Nat) (a:V) (cs:Option (List V)):Option (List Obj):=n.bind fun n=>cs.bind fun cs=>AN H n a cs
@[go_sem] theorem Zdc {n a cs} :vH H (some n) a (some cs)=AN H n a cs:=Zh rfl rfl
@[go_sem ↓] theorem sH {u x y} :Zr P ⟨d,.store u x y,t,ps,af,g⟩ fr H k=hst (vH H (YI P u) (ev fr x) (vc H (ev fr y))) (Zt (k .junk) ⟨⟩):=by
 rw [RB rfl rfl];simp only [Wn,vH]
 cases YI P u<;>cases vc H (ev fr y)<;>simp [hst,AC,Zt]
 grind
@[go_sem ↓] theorem Rz {u n l} :Zr P ⟨d,.buildSlice u n (List.toArray l),t,ps,af,g⟩ fr H k=AC (Wn P (.buildSlice u n (List.toArray l)) fr H) (Zt k ⟨⟩):=by rfl
@[go_sem ↓] theorem jW {u} :Zr P ⟨d,.makeMap u none,t,ps,af,g⟩ fr H k=k (.mp H.length) (H++ [.map []]):=by rfl
@[go_sem ↓] theorem lK {u x y ok} :Zr P ⟨d,.lookup u x y ok,t,ps,af,g⟩ fr H k=AC (Bc P H u (ev fr x) (ev fr y) ok) (Zt k ⟨⟩):=by rfl
@[go_sem ↓] theorem vE {u x y z} :Zr P ⟨d,.mapUpdate u x y z,t,ps,af,g⟩ fr H k=AC (C5 P H u (ev fr x) (ev fr y) (ev fr z)) (Zt k ⟨⟩):=by rfl
@[go_sem ↓] theorem TB {u x y} :Zr P ⟨d,.makeSlice u x y,t,ps,af,g⟩ fr H k=AC (Wn P (.makeSlice u x y) fr H) (Zt k ⟨⟩):=by rfl
@[go_sem ↓] theorem lI {x y u u2} :Zr P ⟨d,.call ⟨.builtin .append,#[x,y],#[u,u2]⟩,t,ps,af,g⟩ fr H k=AC (W2 P H u u2 (ev fr x) (ev fr y)) (Zt k ⟨⟩):=by rfl
@[go_sem ↓] theorem vA {f azs ts} :Zr P ⟨d,.call ⟨.value f,List.toArray azs,ts⟩,t,ps,af,g⟩ fr H k=Ay P (ev fr f) (azs.map (ev fr)) H (Zt k ⟨⟩):=Zh rfl rfl
@[go_sem ↓] theorem Zf9 {f fs cs azs} :Ay P (.fn (.func f) fs cs) azs H k=ACalls P f (fs++azs++cs) H k:=Zh rfl rfl
@[go_sem ↓] theorem ZcB {f azs} :Ay P (.p (.fn f)) azs H k=ACalls P f azs H k:=Zh rfl rfl
theorem IE {f f' azs as'} (h:f=f') (h2:azs=as'):Ay P f azs H k=Ay P f' as' H k:=by rw [h,h2]
theorem G7 {f azs as' H'} (h2:azs=as') (h3:H=H'):ACalls P f azs H k=ACalls P f as' H' k:=by rw [h2,h3]
theorem IF {x x' A B} (h:x=x'):VH x A B=VH x' A B:=by rw [h]
theorem He {x x' b A B} (h:x=x'):Xv x b A B=Xv x' b A B:=by rw [h]
@[go_sem ↓, go_sem] theorem uA {A:Prop} {t B'} :VH (.p (.bool true)) (Zt A t) B'=A:=by simp [VH,Zt]
@[go_sem ↓, go_sem] theorem rR {B:Prop} {t B'} :VH (.p (.bool false)) B' (Zt B t)=B:=by simp [VH,Zt]
@[go_sem ↓, go_sem] theorem ZcL {A:Prop} {t B} :Xv (.p (.bool true)) true (Zt A t) B=A:=by simp [Xv,Zt]
@[go_sem ↓, go_sem] theorem ZcK {B:Prop} {t A} :Xv (.p (.bool true)) false A (Zt B t)=B:=by simp [Xv,Zt]
@[go_sem ↓, go_sem] theorem ZcJ {B:Prop} {t A} :Xv (.p (.bool false)) true A (Zt B t)=B:=by simp [Xv,Zt]
@[go_sem ↓, go_sem] theorem ZcI {A:Prop} {t B} :Xv (.p (.bool false)) false (Zt A t) B=A:=by simp [Xv,Zt]
@[go_sem ↓, go_sem] theorem rT {b} {B:Prop} {t A} :Xv (.tup []) b A (Zt B t)=B:=by rfl
theorem Ja {c:Bool} {A B:Prop} {t t'} (h1:c=true->A) (h2:c=false->B):VH (.p (.bool c)) (Zt A t) (Zt B t'):=⟨h1,h2⟩
theorem VI {c:Bool} {A B:Prop} {t t'} (h1:c=true->A) (h2:c=false->B):Xv (.p (.bool c)) true (Zt A t) (Zt B t'):=⟨h1,fun h=>h2 (by simpa using h)⟩
theorem Us {c:Bool} {A B:Prop} {t t'} (h1:c=true->B) (h2:c=false->A):Xv (.p (.bool c)) false (Zt A t) (Zt B t'):=⟨h2,fun h=>h1 (by simpa using h)⟩
theorem Wt {P Q:Prop} (h:Q) (e:Q->P:=by intro h;simp (disch:=omega) only [go_sem,seval];exact h):P:=e h
class Dc (c:Bool) (p q:outParam Prop):Prop where
 t:c=true->p
 f:c=false->q
instance dcD {p : Prop} [Decidable p] : Dc (decide p) p (¬p) := ⟨K1, of_decide_eq_false⟩
instance (priority := low) dcB {c : Bool} : Dc c (c = true) (c = false) := ⟨id, id⟩
theorem cD {c:Bool} {A B p q:Prop} {t t'} [d:Dc c p q] (h1:p->A) (h2:q->B):VH (.p (.bool c)) (Zt A t) (Zt B t'):=Ja (fun h=>h1 (d.t h)) (fun h=>h2 (d.f h))
theorem gT {c:Bool} {A B p q:Prop} {t t'} [d:Dc c p q] (h1:p->A) (h2:q->B):Xv (.p (.bool c)) true (Zt A t) (Zt B t'):=VI (fun h=>h1 (d.t h)) (fun h=>h2 (d.f h))
theorem gF {c:Bool} {A B p q:Prop} {t t'} [d:Dc c p q] (h1:p->B) (h2:q->A):Xv (.p (.bool c)) false (Zt A t) (Zt B t'):=Us (fun h=>h1 (d.t h)) (fun h=>h2 (d.f h))
@[go_sem] theorem ZkJ {p:Prop} [Decidable p]:(!decide p)=decide (¬p):=Zb
end ops
attribute [congr] Nh IT IE G7 IF He
section vals
variable {P : Program} {H : List Obj} {k : IntKind} {t u : TypeId}
@[go_sem] theorem ZfY {a b} :Yb P .add t (.p (.int k a)) (.p (.int k b))=some (.int k (k.wrap (a+b))):=by simp [Yb,Qr]
@[go_sem] theorem Zf8 {a b} :Yb P .sub t (.p (.int k a)) (.p (.int k b))=some (.int k (k.wrap (a-b))):=by simp [Yb,Qr]
@[go_sem] theorem TQ {a b} :Yb P .mul t (.p (.int k a)) (.p (.int k b))=some (.int k (k.wrap (a*b))):=by simp [Yb,Qr]
@[go_sem] theorem TS {a b} (h:b≠0):Yb P .quo t (.p (.int k a)) (.p (.int k b))=some (.int k (k.wrap (a.tdiv b))):=by simp [Yb,Qr,h]
@[go_sem] theorem Zf6 {a b} (h:b≠0):Yb P .rem t (.p (.int k a)) (.p (.int k b))=some (.int k (a.tmod b)):=by simp [Yb,Qr,h]
@[go_sem] theorem TP {a b} :Yb P .and t (.p (.int k a)) (.p (.int k b))=some (.int k (k.wrap ((BitVec.ofInt k.bits a&&&BitVec.ofInt k.bits b).toNat:Int))):=by simp [Yb,Qr]
@[go_sem] theorem OC {a b} :Yb P .or t (.p (.int k a)) (.p (.int k b))=some (.int k (k.wrap ((BitVec.ofInt k.bits a|||BitVec.ofInt k.bits b).toNat:Int))):=by simp [Yb,Qr]
@[go_sem] theorem rP {a b} :Yb P .andNot t (.p (.int k a)) (.p (.int k b))=some (.int k (k.wrap ((BitVec.ofInt k.bits a&&& ~~~(BitVec.ofInt k.bits b)).toNat:Int))):=by simp [Yb,Qr]
@[go_sem] theorem Zf0 {a b} :Yb P .eql t (.p (.int k a)) (.p (.int k b))=some (.bool (decide (a=b))):=by simp [Yb,Qr]
@[go_sem] theorem Zf5 {a b} :Yb P .neq t (.p (.int k a)) (.p (.int k b))=some (.bool (decide (¬a=b))):=by simp [Yb,Qr]
@[go_sem] theorem Zf4 {a b} :Yb P .lss t (.p (.int k a)) (.p (.int k b))=some (.bool (decide (a<b))):=by simp [Yb,Qr]
@[go_sem] theorem Zf3 {a b} :Yb P .leq t (.p (.int k a)) (.p (.int k b))=some (.bool (decide (a<=b))):=by simp [Yb,Qr]
@[go_sem] theorem Zf2 {a b} :Yb P .gtr t (.p (.int k a)) (.p (.int k b))=some (.bool (decide (b<a))):=by simp [Yb,Qr]
@[go_sem] theorem Zf1 {a b} :Yb P .geq t (.p (.int k a)) (.p (.int k b))=some (.bool (decide (b<=a))):=by simp [Yb,Qr]
@[go_sem] theorem TT {a b k'} (h:0<=b):Yb P .shl t (.p (.int k a)) (.p (.int k' b))=some (.int k (k.wrap (a*2^(min b.toNat k.bits)))):=by grind [Yb,Qr]
@[go_sem] theorem TU {a b k'} (h:0<=b):Yb P .shr t (.p (.int k a)) (.p (.int k' b))=some (.int k (a.fdiv (2^(min b.toNat k.bits)))):=by grind [Yb,Qr]
@[go_sem] theorem Zf7 {op a b} :Yb P op t (.p (.str a)) (.p (.str b))=Io op a b:=Zh rfl rfl
@[go_sem] theorem Zin {a b} :Io .eql a b=some (.bool (decide (a=b))):=Zh rfl rfl
@[go_sem] theorem Zio {a b} :Io .neq a b=some (.bool (decide (¬a=b))):=by simp [Io]
@[go_sem] theorem iK {a b} (h:a.length+b.length<=9223372036854775807):Io .add a b=some (.str (a++b)):=by simp [Io,h]
def Zpi (op:BinOp) (u:Option TypeDesc) (a b:Bool):Option PV:=match op,u with
  | .eql,some .bool=>some (.bool (a==b))
  | .neq,some .bool=>some (.bool (!(a==b)))
  | _,_=>none
end vals
attribute [irreducible] A2 AC hst bst
end Go.AM
namespace Go.AM
open Go.RowKit
section vals
variable {P : Program} {H : List Obj} {k : IntKind} {t u : TypeId}
def Zg2 (g:Bool) (op:BinOp) (r:Option Bool):Option PV:=if g then none else match op with
 | .eql=>r.map .bool
 | .neq=>r.map fun r=> .bool (!r)
 | _=>none
@[go_sem] theorem ZfZ {op a b} :Yb P op t (.p (.agg a)) (.p (.agg b))=Zg2 (P.eqGuardType P.depth t) op (Vs P 9 t (.agg a) (.agg b)):=Zh rfl rfl
@[go_sem] theorem Zg3 {b} :Zg2 false .eql (some b)=some (.bool b):=Zh rfl rfl
def Hd (P:Program) (d:Nat) (t:TypeId) (D:Option TypeDesc) (x y:PV):Option Bool:=match D,x,y with
  | some .bool,.bool a,.bool b=>some (a==b)
  | some (.int _),.int k a,.int k' b=>if k=k' then some (decide (a=b)) else none
  | some .string,.str a,.str b=>some (decide (a=b))
  | some (.struct fs),.agg a,.agg b=>if P.stoodInHeld t then none else Ba (Vs P d) P fs.toList a b
  | some (.array n e),.agg a,.agg b=>match YI P e with | some m=>Rm (Vs P d e) P e m n 0 a b | none=>none
  | _,_,_=>none
@[go_sem] theorem ZcF {d x y} :Vs P (d+1) t x y=Hd P d t (P.underlying t) x y:=Zh rfl rfl
@[go_sem] theorem ZcE {d a b} :Hd P d t (some .bool) (.bool a) (.bool b)=some (a==b):=Zh rfl rfl
@[go_sem] theorem Zgb {d k0 a b} :Hd P d t (some (.int k0)) (.int k a) (.int k b)=some (decide (a=b)):=by simp [Hd]
theorem JZ {d fs a b} (h:P.stoodInHeld t=false):Hd P d t (some (.struct fs)) (.agg a) (.agg b)=Ba (Vs P d) P fs.toList a b:=by simp [Hd,h]
def FN (x y:Option Bool):Option Bool:=x.bind fun p=>y.map fun q=>p&&q
@[go_sem] theorem ZdN {p q} :FN (some p) (some q)=some (p&&q):=Zh rfl rfl
def jZ (f:PV->PV->Option Bool) (x y:Option PV):Option Bool:=x.bind fun x=>y.bind fun y=>f x y
@[go_sem] theorem ZgV {f x y} :jZ f (some x) (some y)=f x y:=Zh rfl rfl
@[go_sem] theorem D3 {f a b} :Ba f P [] a b=some true:=Zh rfl rfl
@[go_sem] theorem Co {f fi r a b} : Ba f P (fi :: r) a b = if fi.name = "_" then Ba f P r a b else FN (jZ (f fi.type) (apart P fi.type a fi.offset) (apart P fi.type b fi.offset)) (Ba f P r a b) := by
 simp only [Ba]
 split
 ·rfl
 ·cases apart P fi.type a fi.offset<;>cases apart P fi.type b fi.offset<;>simp [jZ,FN]
  rename_i x y
  cases f fi.type x y<;>cases Ba f P r a b<;>rfl
def Zgo (g:Option Bool) (s:Option Nat) (cs:List PV) (off:Nat):Option PV:=match g,s with
 | some true,some n=>if off+n<=cs.length then some (.agg ((cs.drop off).take n)) else none
 | some false,_=>cs[off]?
 | _,_=>none
@[go_sem] theorem Zgn {cs off} :apart P t cs off=Zgo (XF P t) (YI P t) cs off:=Zh rfl rfl
@[go_sem] theorem Zgp {s cs off} :Zgo (some false) s cs off=cs[off]? :=Zh rfl rfl
def Nc (g:Option Bool) (s:Option Nat) (H:List Obj) (x:V):Option V:=match g,s with
 | some true,some n=>(VV H x n).map mkA
 | some false,_=>match VV H x 1 with
  | some (c::_)=>some c
  | _=>none
 | _,_=>none
def hdO (x:Option (List V)):Option V:=match x with | some (c::_)=>some c | _=>none
@[go_sem] theorem Zg6 {c l} :hdO (some (c::l))=some c:=Zh rfl rfl
@[go_sem] theorem Zgh {x} :QG P H t x=Nc (XF P t) (YI P t) H x:=Zh rfl rfl
@[go_sem] theorem uK {s x} :Nc (some false) s H x=hdO (VV H x 1):=by rfl
@[go_sem] theorem uJ {n x} :Nc (some true) (some n) H x=(VV H x n).map mkA:=Zh rfl rfl
@[go_sem] theorem ZcD {x j n} :VV H (.lp x j) n=if j+n<=x.cells.length then some (((x.cells.drop j).take n).map .p) else none:=Zh rfl rfl
def gE (ob:Obj) (off n:Nat):Option (List V):=match ob with | .cells cs=>if off+n<=cs.length then some ((cs.drop off).take n) else none | _=>none
@[go_sem] theorem tZ {o off n} :VV H (.ptr o off) n=gE (oat H o) off n:=Zh rfl rfl
@[go_sem] theorem oM {cs off n} :gE (.cells cs) off n=if off+n<=cs.length then some ((cs.drop off).take n) else none:=Zh rfl rfl
def cB (ob:Obj) (i j tot n:Nat):Option (List V):=match ob with
 | .elems _ xs=>if xs.length=tot/\i<xs.length/\j+n<=(QC xs i).cells.length then some ((((QC xs i).cells.drop j).take n).map .p) else none
 | _=>none
@[go_sem] theorem ZcC {o i j tot n} :VV H (.ep o i j tot) n=cB (oat H o) i j tot n:=Zh rfl rfl
@[go_sem] theorem mP {S xs i j tot n} :cB (.elems S xs) i j tot n=if xs.length=tot/\i<xs.length/\j+n<=(QC xs i).cells.length then some ((((QC xs i).cells.drop j).take n).map .p) else none:=Zh rfl rfl
@[go_sem] theorem Zdk {cs} :(PV.agg cs).cells=cs:=Zh rfl rfl
@[go_sem] theorem Zdm {n} :(PV.int k n).cells= [.int k n]:=Zh rfl rfl
@[go_sem] theorem vU {b} :(PV.bool b).cells= [.bool b]:=Zh rfl rfl
@[go_sem] theorem Zdn {s} :(PV.str s).cells= [.str s]:=Zh rfl rfl
@[go_sem] theorem vV {c xs} :(PV.list c xs).cells= [.list c xs]:=Zh rfl rfl
@[go_sem] theorem ZkL {n} :(PV.int k n).one=true:=Zh rfl rfl
@[go_sem] theorem Zh8 {b} :(PV.bool b).one=true:=Zh rfl rfl
@[go_sem] theorem ZkM {s} :(PV.str s).one=true:=Zh rfl rfl
@[go_sem] theorem Zh9 {c xs} :(PV.list c xs).one=true:=Zh rfl rfl
@[go_sem] theorem ZmA {cs} :mkA cs=match Qi cs with | some ps=> .p (.agg ps) | none=> .agg cs:=Zh rfl rfl
@[go_sem] theorem Zgg : Qi []=some []:=Zh rfl rfl
@[go_sem] theorem ZcR {x r} :Qi (.p x::r)=(Qi r).map (x:: ·):=by rfl
def Dy (n:Option Nat) (a:Bool) (x:V):Option V:=match n with | some n=>if a then some (Bd n x) else none | none=>none
@[go_sem] theorem ZcG {s f x} :Jb P H s f x=Dy (ZU P s f) (YZ H x) x:=Zh rfl rfl
@[go_sem] theorem kI {n x} :Dy (some n) true x=some (Bd n x):=Zh rfl rfl
@[go_sem] theorem Zgl {n x j} :Bd n (.lp x j)= .lp x (j+n):=Zh rfl rfl
@[go_sem] theorem ZcV {n o off} :Bd n (.ptr o off)= .ptr o (off+n):=Zh rfl rfl
@[go_sem] theorem Zgk {n o i j tot} :Bd n (.ep o i j tot)= .ep o i (j+n) tot:=Zh rfl rfl
def Pk (ob:Obj):Bool:=match ob with | .cells _=>true | _=>false
@[go_sem] theorem kB {cs} :Pk (.cells cs)=true:=Zh rfl rfl
def Pl (ob:Obj) (tot:Nat):Bool:=match ob with | .elems _ xs=>decide (xs.length=tot) | _=>false
@[go_sem] theorem kC {S xs tot} :Pl (.elems S xs) tot=decide (xs.length=tot):=Zh rfl rfl
def Po (ob:Obj) (tot:Nat):Bool:=match ob with | .elems _ xs=>decide (xs.length=tot) | .cells _=>true | _=>false
@[go_sem] theorem sV {S xs tot} :Po (.elems S xs) tot=decide (xs.length=tot):=Zh rfl rfl
@[go_sem] theorem sU {cs tot} :Po (.cells cs) tot=true:=Zh rfl rfl
@[go_sem] theorem Zge {x j} :YZ H (.lp x j)=true:=Zh rfl rfl
@[go_sem] theorem uH {o off} :YZ H (.ptr o off)=Pk (oat H o):=Zh rfl rfl
@[go_sem] theorem Zgd {o i j tot} :YZ H (.ep o i j tot)=Pl (oat H o) tot:=Zh rfl rfl
def Ub (e:Option (Option Nat×Nat)) (H:List Obj) (x i:V):Option V:=match e,i with
 | some (none,S),.p (.int _ n)=>match x with
  | .p (.list _ xs)=>if 0<=n/\n<xs.length then (if (QC xs n.toNat).cells.length=S then some (.lp (QC xs n.toNat) 0) else none) else none
  | .sl o off len tot=>match oat H o with
   | .elems S' xs=>if xs.length=tot/\S'=S then (if 0<=n/\n<len then some (.ep o (off+n.toNat) 0 tot) else none) else none
   | .cells _=>if S=1/\off=0/\len=tot/\0<=n/\n<len then some (.ptr o n.toNat) else none
   | _=>none
  | _=>none
 | some (some k,S),.p (.int _ n)=>if 0<=n/\n<k then (if YZ H x then some (Bd (n.toNat*S) x) else none) else none
 | _,_=>none
@[go_sem] theorem ZcN {x i} :Qh P H t x i=Ub (YK P t) H x i:=Zh rfl rfl
theorem Hf {S c xs n} (h0:0<=n) (h1:n<(List.length xs:Int)):Ub (some (none,S)) H (.p (.list c xs)) (.p (.int k n))=if (QC xs n.toNat).cells.length=S then some (.lp (QC xs n.toNat) 0) else none:=by
 simp_all [Ub]
def nth {α:Type} [Inhabited α] (l:List α) (i:Nat):α:=l.getD i default
theorem Wq {α:Type} [Inhabited α] {f:α->PV} {l:List α} {i:Nat} (h:i<l.length):QC (l.map f) i=f (nth l i):=by
 simp [QC,nth,h]
theorem Ze {α:Type} [Inhabited α] {l:List α} {i:Nat} (h:i<l.length):nth l i=l[i]:=by simp [nth,h]
@[go_sem] theorem rV {α:Type} [Inhabited α] {f:α->PV} {l:List α} {S c n} (h0:0<=n) (h1:n<(l.length:Int)) :
  Ub (some (none,S)) H (.p (.list c (l.map f))) (.p (.int k n))=if (f (nth l n.toNat)).cells.length=S then some (.lp (f (nth l n.toNat)) 0) else none:=by
 grind [Hf,Wq]
def Fg (ob:Obj) (S o off len tot:Nat) (n:Int):Option V:=match ob with
 | .elems S' xs=>if xs.length=tot/\S'=S then (if 0<=n/\n<len then some (.ep o (off+n.toNat) 0 tot) else none) else none
 | .cells _=>if S=1/\off=0/\len=tot/\0<=n/\n<len then some (.ptr o n.toNat) else none
 | _=>none
@[go_sem] theorem uD {S o off len tot n} :Ub (some (none,S)) H (.sl o off len tot) (.p (.int k n))=Fg (oat H o) S o off len tot n:=Zh rfl rfl
@[go_sem] theorem ZdY {S xs o off} {len tot:Nat} {n:Int} (h0:0<=n) (h1:n<(len:Int)) (ht:xs.length=tot):Fg (.elems S xs) S o off len tot n=some (.ep o (off+n.toNat) 0 tot):=by
 grind [Fg]
@[go_sem] theorem pM {cs o} {len:Nat} {n:Int} (h0:0<=n) (h1:n<(len:Int)):Fg (.cells cs) 1 o 0 len len n=some (.ptr o n.toNat):=by
 grind [Fg]
@[go_sem] theorem rU {n} {m S:Nat} {x} (h0:0<=n) (h1:n<(m:Int)):Ub (some (some m,S)) H x (.p (.int k n))=Dy (some (n.toNat*S)) (YZ H x) x:=by
 simp_all [Ub,Dy]
def OD (H:List Obj) (D:Option TypeDesc) (x:V):Option PV:=match D,x with
 | some (.slice _),.p (.list _ xs)=>some (.int .i64 xs.length)
 | some (.slice _),.sl o _ len tot=>match oat H o with
  | .elems _ xs=>if xs.length=tot then some (.int .i64 len) else none
  | _=>none
 | some .string,.p (.str s)=>some (.int .i64 s.length)
 | some (.array n _),_=>some (.int .i64 n)
 | _,_=>none
@[go_sem] theorem ZjM {x} :T2 P H t x=OD H (P.underlying t) x:=Zh rfl rfl
@[go_sem] theorem uE {e c xs} :OD H (some (.slice e)) (.p (.list c xs))=some (.int .i64 (List.length xs)):=Zh rfl rfl
def Zis (ob:Obj) (len tot:Nat):Option PV:=match ob with | .elems _ xs=>if xs.length=tot then some (.int .i64 len) else none | _=>none
@[go_sem] theorem Zgc {e o off len tot} :OD H (some (.slice e)) (.sl o off len tot)=Zis (oat H o) len tot:=Zh rfl rfl
@[go_sem] theorem Zb3 {S xs len tot} :Zis (.elems S xs) len tot=if xs.length=tot then some (.int .i64 len) else none:=Zh rfl rfl
@[go_sem] theorem ZcQ {s} :OD H (some .string) (.p (.str s))=some (.int .i64 (List.length s)):=Zh rfl rfl
@[go_sem] theorem ZjU {b} :aun .not (.p (.bool b))=some (.bool (!b)):=Zh rfl rfl
@[go_sem] theorem ZjT {n} :aun .neg (.p (.int k n))=some (.int k (k.wrap (0-n))):=Zh rfl rfl
def TW (D E:Option TypeDesc) (x:V):Option PV:=match D,E,x with
 | some _,some (.int k),.p (.int _ n)=>some (.int k (k.wrap n))
 | some (.int _),some .string,.p (.int _ n)=>if 0<=n/\n<128 then some (.str [UInt8.ofNat n.toNat]) else none
 | some .string,some .string,.p (.str b)=>some (.str b)
 | _,_,_=>none
@[go_sem] theorem Zga {s x} :IG P s t x=TW (P.underlying s) (P.underlying t) x:=Zh rfl rfl
@[go_sem] theorem uB {D k' n} :TW (some D) (some (.int k)) (.p (.int k' n))=some (.int k (k.wrap n)):=by rfl
def Hb (E:Option TypeDesc) (H:List Obj) (x:V):Option PV:=match E,x with
  | some (.int .u8),.p (.list _ xs)=>(YL xs).map .str
  | some (.int .u8),.sl o off len tot=>match oat H o with
   | .elems _ xs=>if xs.length=tot/\off+len<=tot then (YL ((xs.take (off+len)).drop off)).map .str else none
   | _=>none
  | _,_=>none
def Ha (P:Program) (H:List Obj) (D E:Option TypeDesc) (x:V):Option PV:=match D,E with
 | some (.slice e),some .string=>Hb (P.underlying e) H x
 | _,_=>none
@[go_sem] theorem ZcA {s x} :Cn P H s t x=Ha P H (P.underlying s) (P.underlying t) x:=Zh rfl rfl
@[go_sem] theorem rQ {E x} :Ha P H (some (.int k)) E x=none:=Zh rfl rfl
@[go_sem] theorem jR {e x} :Ha P H (some (.slice e)) (some .string) x=Hb (P.underlying e) H x:=Zh rfl rfl
def iL (ob:Obj) (off len tot:Nat):Option PV:=match ob with | .elems _ xs=>if xs.length=tot/\off+len<=tot then (YL ((xs.take (off+len)).drop off)).map .str else none | _=>none
@[go_sem] theorem tY {o off len tot} :Hb (some (.int .u8)) H (.sl o off len tot)=iL (oat H o) off len tot:=Zh rfl rfl
@[go_sem] theorem pI {S xs off len tot} :iL (.elems S xs) off len tot=if xs.length=tot/\off+len<=tot then (YL ((xs.take (off+len)).drop off)).map .str else none:=Zh rfl rfl
@[go_sem] theorem sM : YL []=some []:=Zh rfl rfl
@[go_sem] theorem lR {n r} :YL (.int .u8 n::r)=(YL r).map (UInt8.ofNat n.toNat:: ·):=by rfl
@[go_sem] theorem Zlc {a b:Int} (h:0<=a):a.tdiv b=a / b:=Int.tdiv_eq_ediv_of_nonneg h
@[go_sem] theorem Zlq {a b:Int} (h:0<=a):a.tmod b=a%b:=Int.tmod_eq_emod_of_nonneg h
@[go_sem] theorem Zn5 {cs} :vc H (.p (.agg cs))=if cs.all (·.one)=true then some (cs.map .p) else none:=by rfl
@[go_sem] theorem Zlr {cs} :vc H (.agg cs)=if cs.all (V.one H)=true then some cs else none:=by rfl
@[go_sem] theorem Zn6 {n} :vc H (.p (.int k n))=some [.p (.int k n)]:=Zh rfl rfl
@[go_sem] theorem Zls {n} :vc H (.p (.bool n))=some [.p (.bool n)]:=Zh rfl rfl
@[go_sem] theorem Zn7 {n} :vc H (.p (.str n))=some [.p (.str n)]:=Zh rfl rfl
@[go_sem] theorem Zlt {c xs} :vc H (.p (.list c xs))=some [.p (.list c xs)]:=Zh rfl rfl
@[go_sem] theorem Zph {o off len tot} :vc H (.sl o off len tot)=if Po (oat H o) tot=true then some [.sl o off len tot] else none:=Zh rfl rfl
@[go_sem] theorem Zn8 {x} :V.one H (.p x)=x.one:=Zh rfl rfl
@[go_sem] theorem Zlw {o off len tot} :V.one H (.sl o off len tot)=Po (oat H o) tot:=Zh rfl rfl
@[go_sem] theorem Zlv {o} :V.one H (.mp o)=Pm (oat H o):=Zh rfl rfl
@[go_sem] theorem Zpg {o} :vc H (.mp o)=if Pm (oat H o)=true then some [.mp o] else none:=Zh rfl rfl
@[go_sem] theorem ZdC {es} :Pm (.map es)=true:=Zh rfl rfl
@[go_sem] theorem ZkS {α:Type} {n} {cs:List α} :JW ([]:List α) n cs= []:=by rfl
@[go_sem] theorem Ziu {α:Type} {x c:α} {l cs} :JW (x::l) 0 (c::cs)=c::JW l 0 cs:=by simp [JW]
@[go_sem] theorem ZdZ {α:Type} {x:α} {l} :JW (x::l) 0 []=x::l:=by simp [JW]
@[go_sem] theorem Zit {α:Type} {x:α} {l cs n} :JW (x::l) (n+1) cs=x::JW l n cs:=by simp [JW]
def gW (H:List Obj) (o:Nat) (ob:Obj) (off n:Nat) (cs:List V):Option (List Obj):=match ob with
 | .cells old=>if off+n<=old.length then some (EV H o (.cells (JW old off cs))) else none
 | _=>none
@[go_sem] theorem vG {n o off cs} :AN H n (.ptr o off) cs=if cs.length=n then gW H o (oat H o) off n cs else none:=Zh rfl rfl
@[go_sem] theorem oV {o old off n cs} :gW H o (.cells old) off n cs=if off+n<=old.length then some (EV H o (.cells (JW old off cs))) else none:=Zh rfl rfl
def Nz (H:List Obj) (o:Nat) (ob:Obj) (i j tot n:Nat) (ps:Option (List PV)):Option (List Obj):=match ob,ps with
 | .elems S xs,some ps=>if xs.length=tot/\i<xs.length/\j+n<=(QC xs i).cells.length/\ps.all (·.one)=true/\(QC xs i).cells.all (·.one)=true then
   some (EV H o (.elems S (xs.set i (kD (QC xs i) (JW (QC xs i).cells j ps))))) else none
 | _,_=>none
@[go_sem] theorem Zdb {n o i j tot cs} :AN H n (.ep o i j tot) cs=if cs.length=n then Nz H o (oat H o) i j tot n (Qi cs) else none:=Zh rfl rfl
@[go_sem] theorem wM {α:Type} [Inhabited α] {f:α->PV} {l:List α} {o S i j tot n ps} (ht:l.length=tot) (hi:i<l.length):Nz H o (.elems S (l.map f)) i j tot n (some ps) =
  if j+n<=(f (nth l i)).cells.length/\ps.all (·.one)=true/\(f (nth l i)).cells.all (·.one)=true then
   some (EV H o (.elems S ((l.map f).set i (kD (f (nth l i)) (JW (f (nth l i)).cells j ps))))) else none:=by
 simp_all [Nz,Wq]
@[go_sem] theorem ZkF {a cs} :kD (.agg a) cs= .agg cs:=Zh rfl rfl
@[go_sem] theorem ZkG {n c l} :kD (.int k n) (c::l)=c:=Zh rfl rfl
@[go_sem] theorem ZhU {n c l} :kD (.bool n) (c::l)=c:=Zh rfl rfl
@[go_sem] theorem Zcz {l} :D1 P H t l=match Xm P t,DV P t with
 | some zs,some pl=>(J0 H pl (zs.map .p) l).map mkA
 | _,_=>none:=Zh rfl rfl
@[go_sem] theorem ZcH {pl cs} :J0 H pl cs []=some cs:=by simp [J0]
def TY (H:List Obj) (pl:Nat->Option (Nat×Nat)) (cs:List V) (r:List (Nat×V)) (q:Option (Nat×Nat)) (vs:Option (List V)):Option (List V):=match q,vs with
 | some (off,sz),some vs=>if vs.length=sz/\off+sz<=cs.length then J0 H pl (JW cs off vs) r else none
 | _,_=>none
@[go_sem] theorem uC {pl cs i v r} :J0 H pl cs ((i,v)::r)=TY H pl cs r (pl i) (vc H v):=Zh rfl rfl
@[go_sem] theorem rS {pl cs off sz vs r} :TY H pl cs r (some (off,sz)) (some vs)=if vs.length=sz/\off+sz<=cs.length then J0 H pl (JW cs off vs) r else none:=Zh rfl rfl
@[go_sem] theorem ZmH {l i} :DQ l i=l[i]? :=Zh rfl rfl
@[go_sem] theorem ZmG {n i} :plA n i=some (i*n,n):=Zh rfl rfl
end vals
end Go.AM
namespace Go.AM
open Go.RowKit
section
variable {P : Program} {H : List Obj} {k : IntKind} {t u : TypeId} {fr : List V}
def T3 (S:Option Nat) (H:List Obj) (n:Nat) (l:List (Nat×V)):Option (V×List Obj):=match S with
 | some S=>if n=l.length/\n*S<=16777216/\0<S then (QS H S 0 l).map fun xs=>(.sl H.length 0 n n,H++ [.elems S xs]) else none
 | none=>none
@[go_sem] theorem Zgj {n l} :Wn P (.buildSlice t n (List.toArray l)) fr H=T3 (UX P t) H n (l.map fun x=>(x.1,ev fr x.2)):=by
 grind [Wn,UX,T3,Na]
@[go_sem] theorem uF {S n l} :T3 (some S) H n l=if n=l.length/\n*S<=16777216/\0<S then (QS H S 0 l).map fun xs=>(.sl H.length 0 n n,H++ [.elems S xs]) else none:=Zh rfl rfl
@[go_sem] theorem ZhP {S n} :QS H S n []=some []:=by simp [QS]
@[go_sem] theorem ZdI {S n i x r} :QS H S n ((i,.p x)::r)=if i=n then if x.cells.length=S/\x.cells.all (·.one)=true then (QS H S (n+1) r).map (x:: ·) else none else none:=by rfl
@[go_sem] theorem Zkv {S n i f r} :QS H S n ((i,.fn (.func f) [] [])::r)=if i=n then if 1=S then (QS H S (n+1) r).map (.fn f:: ·) else none else none:=by simp [QS,pvo,PV.cells,PV.one]
def Jd (P:Program) (t:TypeId):Option (Nat×Nat):=match P.underlying t with
 | some (.slice e)=>match YI P e,zval P e,(P.info? e).map (·.bytes) with
  | some S,some z,some by'=>if 0<S/\z.cells.length=S/\z.cells.all (·.one)=true/\by'≠0 then some (S,by') else none
  | _,_,_=>none
 | _=>none
theorem D9 {S by'} (h:Jd P t=some (S,by')): ∃e z,P.underlying t=some (.slice e)/\YI P e=some S/\zval P e=some z/\(P.info? e).map (·.bytes)=some by'/\0<S/\z.cells.length=S/\z.cells.all (·.one)=true/\by'≠0:=by
 unfold Jd at h
 grind
def YS (D:Option TypeDesc) (H:List Obj) (y:V):Option (List PV):=match D,y with
 | some (.slice _),.p (.list _ ys)=>some ys
 | some (.slice _),.sl o off len tot=>match oat H o with
  | .elems _ xs=>if xs.length=tot/\off+len<=tot then some ((xs.take (off+len)).drop off) else none
  | _=>none
 | some .string,.p (.str s)=>some (s.map fun b=> .int .u8 b.toNat)
 | _,_=>none
def iT (ob:Obj) (off len tot:Nat):Option (List PV):=match ob with | .elems _ xs=>if xs.length=tot/\off+len<=tot then some ((xs.take (off+len)).drop off) else none | _=>none
@[go_sem] theorem uU {e c ys} :YS (some (.slice e)) H (.p (.list c ys))=some ys:=Zh rfl rfl
@[go_sem] theorem Zgu {e o off len tot} :YS (some (.slice e)) H (.sl o off len tot)=iT (oat H o) off len tot:=Zh rfl rfl
theorem MC {S xs n} (h:List.length xs=n):iT (.elems S xs) 0 n n=some xs:=by grind [iT]
def Ni (H:List Obj) (F:Option (Nat×Nat)) (ys:Option (List PV)):Option (V×List Obj):=match F,ys with
 | some (S,by'),some ys=>if AD S ys=true/\ys.length*by'<=140737488355328/\ys.length<=140737488355328 then some (.sl H.length 0 ys.length ys.length,H++ [.elems S ys]) else none
 | _,_=>none
def Uv (H:List Obj) (F:Option (Nat×Nat)) (ob:Obj) (o n:Nat) (ys:Option (List PV)):Option (V×List Obj):=match F,ob,ys with
 | some (S,by'),.elems S' xs,some ys=>if S'=S/\xs.length=n/\AD S ys=true/\(n+ys.length)*by'<=140737488355328/\n+ys.length<=140737488355328 then
   some (.sl o 0 (n+ys.length) (n+ys.length),EV H o (.elems S (xs++ys))) else none
 | _,_,_=>none
theorem G8 {z x y ys e S by'} (h1:P.underlying t=some (.slice e)) (h2:YI P e=some S) (h3:zval P e=some z) (h4:(P.info? e).map (·.bytes)=some by') (h5:Do P H u y=some ys) (h6:0<S/\z.cells.length=S/\z.cells.all (·.one)=true/\by'≠0) :
  W2 P H t u x y=if AD S ys=true then (match x with
    | .p (.list cl xs)=>if cl=true/\AD S xs=true/\(xs= []\/0<ys.length)/\(xs.length+ys.length)*by'<=140737488355328/\xs.length+ys.length<=140737488355328 then
      some (.sl H.length 0 (xs.length+ys.length) (xs.length+ys.length),H++ [.elems S (xs++ys)]) else none
    | .sl o off len tot=>match oat H o with
     | .elems S' xs=>if S'=S/\off=0/\len=tot/\xs.length=tot/\(tot+ys.length)*by'<=140737488355328/\tot+ys.length<=140737488355328 then
       some (.sl o 0 (tot+ys.length) (tot+ys.length),EV H o (.elems S (xs++ys))) else none
     | _=>none
    | _=>none) else none:=by
 simp only [W2,h1,h2,h3,h4,h5]
 grind
theorem D0 {y F} (hF:Jd P t=some F):W2 P H t u (.p (.list true [])) y=Ni H (some F) (YS (P.underlying u) H y):=by
 obtain ⟨S,by'⟩:=F;obtain ⟨e,z,h1,h2,h3,h4,h6⟩:=D9 hF;have e1:YS (P.underlying u) H y=Do P H u y:=Zh rfl rfl;rw [e1]
 cases h5:Do P H u y with
 | none=>grind [W2,Ni]
 | some ys =>
  grind [G8,Ni,AD]
theorem YB {y F o n} (hF:Jd P t=some F):W2 P H t u (.sl o 0 n n) y=Uv H (some F) (oat H o) o n (YS (P.underlying u) H y):=by
 obtain ⟨S,by'⟩:=F;obtain ⟨e,z,h1,h2,h3,h4,h6⟩:=D9 hF;have e1:YS (P.underlying u) H y=Do P H u y:=Zh rfl rfl;rw [e1]
 cases h5:Do P H u y with
 | none =>
  grind [W2,Uv]
 | some ys =>
  rw [G8 h1 h2 h3 h4 h5 h6];simp only [Uv]
  grind
@[go_sem] theorem Zc0 {S b ys} :Ni H (some (S,b)) (some ys)=if AD S ys=true/\ys.length*b<=140737488355328/\ys.length<=140737488355328 then some (.sl H.length 0 ys.length ys.length,H++ [.elems S ys]) else none:=Zh rfl rfl
theorem F3 {S b xs ys o n} (hn:xs.length=n) (hb:(n+ys.length)*b<=140737488355328) (hb2:n+ys.length<=140737488355328):Uv H (some (S,b)) (.elems S xs) o n (some ys)=if AD S ys=true then some (.sl o 0 (n+ys.length) (n+ys.length),EV H o (.elems S (xs++ys))) else none:=by
 simp_all [Uv]
@[go_sem] theorem Ziw {α:Type} {S} {f:α->PV} {l:List α} :iT (.elems S (l.map f)) 0 l.length l.length=some (l.map f):=MC Zb
@[go_sem] theorem Zix {S x} :iT (.elems S [x]) 0 1 1=some [x]:=MC Zb
@[go_sem] theorem Zc2 {α:Type} {S b o x} {f:α->PV} {l:List α} (hb:(l.length+1)*b<=140737488355328) (hb2:l.length+1<=140737488355328):Uv H (some (S,b)) (.elems S (l.map f)) o l.length (some [x])=if AD S [x]=true then some (.sl o 0 (l.length+1) (l.length+1),EV H o (.elems S (l.map f++ [x]))) else none :=
 F3 Zb Za Za
@[go_sem] theorem Zc3 {α β:Type} {S b o} {f:α->PV} {g:β->PV} {l:List α} {m:List β} (hb:(l.length+m.length)*b<=140737488355328) (hb2:l.length+m.length<=140737488355328):Uv H (some (S,b)) (.elems S (l.map f)) o l.length (some (m.map g))=if AD S (m.map g)=true then some (.sl o 0 (l.length+m.length) (l.length+m.length),EV H o (.elems S (l.map f++m.map g))) else none:=by
 grind [F3]
@[go_sem] theorem ZkK {S} :AD S []=true:=Zh rfl rfl
@[go_sem] theorem Zh4 {S x l} :AD S (x::l)=((x.cells.length==S)&&x.cells.all (·.one)&&AD S l):=by rfl
theorem DO {α:Type} {S} {f:α->PV} {l:List α} (h: ∀x,ZbD S (f x)=true):AD S (l.map f)=true:=by grind [AD]
def LQ (P:Program) (t:TypeId):Option (Nat×Nat×PV):=match P.underlying t with
  | some (.slice e)=>match YI P e,zval P e,(P.info? e).map (·.bytes) with
   | some S,some z,some by'=>if z.cells.all (·.one)=true/\z.cells.length=S/\0<S then some (S,by',z) else none
   | _,_,_=>none
  | _=>none
end
def WG : Nat->List Nat->List V->List V
 | _,_,[]=> []
 | i,[],_::l=> .junk::WG (i+1) [] l
 | i,k::ks,x::l=>if i=k then x::WG (i+1) ks l else .junk::WG (i+1) (k::ks) l
def Aw : List (Nat×V)->List V->List V
 | [],fr=>fr
 | (i,v)::r,fr=>Aw r (pt fr i v)
@[go_sem] theorem ZdD {i ks} :WG i ks []= []:=by rfl
@[go_sem] theorem Zbr {i x l} :WG i [] (x::l)= .junk::WG (i+1) [] l:=by simp [WG]
@[go_sem] theorem Zbq {i k ks x l} :WG i (k::ks) (x::l)=if i=k then x::WG (i+1) ks l else .junk::WG (i+1) (k::ks) l:=by simp [WG]
@[go_sem] theorem Zoi : ((0:Nat):Int)=0:=Zh rfl rfl
@[go_sem] theorem Zoj {n:Nat} :((n+1:Nat):Int)=(n:Int)+1:=Zh rfl rfl
@[go_sem] theorem Znh {n:Nat} :((n:Int)).toNat=n:=Zh rfl rfl
@[go_sem] theorem Zoc {fr} :Aw [] fr=fr:=by simp [Aw]
@[go_sem] theorem ZdX {i v r fr} :Aw ((i,v)::r) fr=Aw r (pt fr i v):=by simp [Aw]
@[go_sem] theorem ZjR {p q:Prop} [Decidable p] [Decidable q]:(decide p&&decide q)=decide (p/\q):=Zb
@[go_sem] theorem ZbI {p q:Prop} [Decidable p] [Decidable q]:(decide p||decide q)=decide (p\/q):=Zb
theorem Zk {P c fr H Q} {I:Type} (ks:List Nat) (sets:I->List (Nat×V)) (hs:I->List Obj) (R:I->Prop) (μ:I->Nat) (i0:I) (hR:R i0) (h0:Weak H.length fr H (Aw (sets i0) (WG 0 ks fr)) (hs i0))
  (round: ∀i,R i->Jh [] P c (Aw (sets i) (WG 0 ks fr)) (hs i) (Q3 (fun fr' H'=> ∃i',R i'/\μ i'<μ i/\Weak H.length fr' H' (Aw (sets i') (WG 0 ks fr)) (hs i')) Q)):AWP P (.loop c) fr H Q :=
 IW R (fun i=>Aw (sets i) (WG 0 ks fr)) hs μ i0 hR h0 fun i hi=>Zg [] _ _ _ _ (round i hi)
theorem Xe {P c fr H Q} (cuts:List Nat) {I:Type} (ks:List Nat) (sets:I->List (Nat×V)) (hs:I->List Obj) (R:I->Prop) (μ:I->Nat) (i0:I) (hR:R i0) (h0:Weak H.length fr H (Aw (sets i0) (WG 0 ks fr)) (hs i0))
  (round: ∀i,R i->Jh cuts P c (Aw (sets i) (WG 0 ks fr)) (hs i) (Q3 (fun fr' H'=> ∃i',R i'/\μ i'<μ i/\Weak H.length fr' H' (Aw (sets i') (WG 0 ks fr)) (hs i')) Q)):AWP P (.loop c) fr H Q :=
 IW R (fun i=>Aw (sets i) (WG 0 ks fr)) hs μ i0 hR h0 fun i hi=>Zg cuts _ _ _ _ (round i hi)
theorem ZJ {P x y fr H Q} {I:Type} (ks:List Nat) (sets:I->List (Nat×V)) (hs:I->List Obj) (R:I->Prop)
  (h:Jh [] P x fr H (Q3 (fun fr' H'=> ∃i,R i/\Weak H.length fr' H' (Aw (sets i) (WG 0 ks fr)) (hs i)) Q)) (k: ∀i,R i->AWP P y (Aw (sets i) (WG 0 ks fr)) (hs i) Q):AWP P (.seq x y) fr H Q :=
 fun F ι a w hr hf=>by
 refine wp_seq (wp_mono (Zg [] _ _ _ _ h F ι a w hr hf) ?_);rintro e a' w' ⟨fr',H',ι',q,g,f⟩
 cases e with
 | normal =>
  obtain ⟨i,hi,hw⟩:=q;obtain ⟨ι2,r2,f2,g2⟩:=hw F ι' a' w' g.rel f;refine wp_mono (k i hi F ι2 a' w' r2 f2) ?_;rintro e2 a2 w2 ⟨fr2,H2,ι3,q2,g3,f3⟩;exact ⟨fr2,H2,ι3,q2,(g2 H ι w (Xf _) g).trans g3,f3⟩
 | exit id=>exact ⟨fr',H',ι',q,g,f⟩
 | goto l=>exact ⟨fr',H',ι',q,g,f⟩
 | ret=>exact ⟨fr',H',ι',q,g,f⟩
 | panic ch=>exact ⟨fr',H',ι',q,g,f⟩
 | outgrown=>exact ⟨fr',H',ι',q,g,f⟩
theorem Zjw {H n x} :Fu H n x x=(refB n x=true\/x= .junk\/ ∃y,kA H n x=some y/\x= .p y):=by
 simp only [Fu,true_and,eq_iff_iff]
 grind
@[go_sem] theorem Zju {H n x} :Fu H n x .junk=True:=by simp [Fu]
@[go_sem] theorem Zob {H n} {x y:PV} :Fu H n (.p x) (.p y)=(y=x):=by simp [Fu,refB,kA]
@[go_sem] theorem ZlB {H n o off len tot o' off' len' tot'} :Fu H n (.sl o off len tot) (.sl o' off' len' tot')=((o'=o/\off'=off/\len'=len/\tot'=tot)/\o<n):=by simp [Fu,refB]
@[go_sem] theorem Zjv {H n o off o' off'} :Fu H n (.ptr o off) (.ptr o' off')=((o'=o/\off'=off)/\o<n):=by simp [Fu,refB]
@[go_sem] theorem Zlx {H n} :Rc H n [] []=True:=by simp [Rc]
@[go_sem] theorem Zjr {H n x l x' l'} :Rc H n (x::l) (x'::l')=(Fu H n x x'/\Rc H n l l'):=by simp [Rc]
@[go_sem] theorem Zly {H n l} :MV H n l []=True:=by simp [MV]
@[go_sem] theorem Zjs {H n x l x' l'} :MV H n (x::l) (x'::l')=(DY H n x x'/\MV H n l l'):=by simp [MV]
@[go_sem] theorem ZeR {H n cs cs'} :DY H n (.cells cs) (.cells cs')=Rc H n cs cs':=by simp [DY]
@[go_sem] theorem ZeS {H n S S' xs xs'} :DY H n (.elems S xs) (.elems S' xs')=(S=S'/\xs=xs'):=by simp [DY]
@[go_sem] theorem Zlz {H n es es2} :DY H n (.map es) (.map es2)=(es=es2):=by simp [DY]
@[go_sem] theorem Zoa {H n o o2} :Fu H n (.mp o) (.mp o2)=(o2=o/\o<n):=by simp [Fu,refB,kA]
@[go_sem] theorem Zjt {H n} :DY H n .dead .dead=True:=by simp [DY]
theorem Weak.mk {n0 fr H fr' H'} (h:n0<=H'.length/\H'.length<=H.length/\Rc H H'.length fr fr'/\MV H H'.length H H'):Weak n0 fr H fr' H':=Weak.of h.1 h.2.2.1 h.2.2.2 h.2.1
theorem wk {n0 fr H fr' H'} (h:n0<=H'.length/\H'.length<=H.length/\Rc H H'.length fr fr'/\MV H H'.length H H':=by simp (disch:=omega) only [go_sem,seval]):Weak n0 fr H fr' H':=Weak.mk h
theorem we {n0 x H' a b} (h:n0<=List.length b/\List.length b<=H'.length/\Rc H' (List.length b) [x] [a]/\MV H' (List.length b) H' b:=by simp (disch:=omega) only [go_sem,seval]): ∃y H'',Weak n0 [x] H' [y] H''/\y=a/\H''=b:=⟨_,_,Weak.mk h,rfl,rfl⟩
attribute [go_sem] List.length_cons List.length_nil List.cons_append List.nil_append List.append_nil List.map_cons List.map_nil List.drop_zero List.drop_succ_cons List.drop_nil List.take_succ_cons List.take_zero List.take_nil List.all_cons List.all_nil
 XJ Vh and_self true_and and_true K5 U8 K4 K3 KX Vg Bool.and_self Zx if_true Yr BB Jv IntWalk.i64_in IntWalk.i32_in IntWalk.u8_in IntWalk.u64_in IntWalk.u32_in
 beq_self_eq_true Qw List.replicate_zero Bool.or_true Bool.true_or Bool.or_false Bool.false_or DF BJ
end Go.AM
namespace Go.AM
open Go.RowKit
theorem RP.weaker {X X':Nat->Prop} {w x v} (h:RP X w x v) (hx: ∀b,X' b->X b):RP X' w x v:=h.ext (w':=w) fun _ hb hs=>⟨fun h=>hb (hx _ h),hs,rfl⟩
theorem Good.forget {F w H' ι' w'} (he:Env F [] w) (hf: ∀b,F b->b<w.heap.size) (g:Good F [] [] w H' ι' w'):Good F [] [] w [] [] w' :=
 .up he ⟨⟨rfl,fun b hb=>by have:=hf b hb;have:=g.size;omega,fun i j b hi=>by simp at hi,fun i b hi=>by simp at hi,fun o cs ho=>by simp at ho,fun o S xs ho=>by simp at ho,fun o es ho=>by simp at ho,fun o T E r bs ho=>by simp at ho⟩,
  g.os,g.tape,g.output,fun b c t h=>(g.shape b c t h).imp (fun h=>absurd h.1 Zb) id,g.size,g.keep,fun _ _ h=>h,fun o ob ho=>by simp at ho⟩
theorem ACalls.pure {P g args} {y:PV} (h:ACalls P g args [] fun x _=>x= .p y):ACalls P g args [] fun x H'=>x= .p y/\H'= []:=by
 refine ⟨h.1,fun F ι w vs hr hv=> ?_⟩;have hι:ι= []:=Zy hr.len;subst hι;refine (h.2 F [] w vs hr hv).mono ?_;rintro e w' ⟨x,H',ι',v,rfl,rfl,gd,rv⟩
 cases rv with | p _ _ rp =>
 exact ⟨_,[],[],v,rfl,⟨rfl,rfl⟩,gd.forget hr.env hr.fin,.p _ _ (rp.weaker fun b hb=> .inl (by rcases hb with hb | hb;exact hb;simp at hb))⟩
theorem Ey {F:Nat->Prop} {w w':World} {H':List Obj} {ι':List (Option Nat)} {v:Value} {o S n:Nat} {xs:List PV} (hF: ∀b,F b->b<w.heap.size) (hn:xs.length=n) (ho:oat H' o= .elems S xs)
  (gd:Good F [] [] w H' ι' w') (rv:RV F H' ι' w' (.sl o 0 n n) v): ∃ι2,Good F [] [] w [.elems S xs] ι2 w'/\RV F [.elems S xs] ι2 w' (.sl 0 0 n n) v:=by
 have hH:=Z1 ho Zb;have hlt:=(ZT.1 hH).1
 have hlt':o<ι'.length:=by rw [gd.rel.len];exact hlt
 have hι':ι'[o]? =some (ι'[o]):=by simp [hlt']
 have hget: ∀ {i:Nat} {q:Option Nat},[ι'[o]][i]? =some q->i=0/\ι'[o]? =some q:=fun {i q} h=>by
  grind
 have hown: ∀b,Own F [ι'[o]] b->Own F ι' b:=fun b hb=>by
  rcases hb with hb | hb
  ·exact .inl hb
  ·simp at hb;right;rw [hb];simp
 refine ⟨[ι'[o]],⟨⟨⟨rfl,fun b hb=> ?_,fun i j b hi hj=> ?_,fun i b hi=> ?_,fun o' cs ho'=> ?_,fun o' S' xs' ho'=> ?_,fun o' es ho'=>by grind,fun o' T E r bs ho'=>by grind⟩,gd.rel.env.le hown⟩,gd.os,gd.tape,gd.output,fun b c t h=>(gd.shape b c t h).imp (fun h=>absurd h.1 Zb) id,gd.size,gd.keep,fun b hb _ h=> ?_,fun o ob ho=>by simp at ho⟩,?_⟩
 ·have:=hF b hb;have:=gd.size;omega
 ·grind
 ·exact gd.rel.avo o b (hget hi).2
 ·grind
 ·cases o' with
  | zero =>
   simp at ho';obtain ⟨rfl,rfl⟩:=ho';rcases gd.rel.elm o _ _ hH with ⟨e1,e2⟩ | ⟨b,c,t,cap,e1,e2,e3,e4,e5,e6,e7⟩
   ·grind
   ·exact .inr ⟨b,c,t,cap,by grind,e2,e3,e4,e5,e6,fun i x j y hi hj=>(e7 i x j y hi hj).weaker hown⟩
  | succ i=>simp at ho'
 ·simp at h;exact gd.own b hb Zb (by rw [h];simp)
 ·cases rv with
  | slNil _ S2 a h1 h2 =>
   rw [hH] at h2;simp at h2;obtain ⟨rfl,rfl⟩:=h2;exact .slNil 0 S a (by grind) rfl
  | sl _ _ _ _ b S2 cap t xs2 c h1 h2 ht hw hcap hl hlen hm =>
   rw [hH] at h2;simp at h2;obtain ⟨rfl,rfl⟩:=h2;exact .sl 0 0 n n b S cap t xs c (by grind) rfl hn hw hcap hl hlen hm
  | slD _ _ _ _ _ h1=>grind
  | slS _ _ _ _ _ S2 xs2 h1 hne=>grind
  | slC _ _ _ _ _ _ hd=>grind
theorem ACalls.fresh {P g args} {S n:Nat} {xs:List PV} (hn:xs.length=n) (h:ACalls P g args [] fun x H'=> ∃o,x= .sl o 0 n n/\oat H' o= .elems S xs):ACalls P g args [] fun x H'=>x= .sl 0 0 n n/\H'= [.elems S xs]:=by
 refine ⟨h.1,fun F ι w vs hr hv=> ?_⟩;have hι:ι= []:=Zy hr.len;subst hι;refine (h.2 F [] w vs hr hv).mono ?_;rintro e w' ⟨x,H',ι',v,rfl,⟨o,rfl,ho⟩,gd,rv⟩;obtain ⟨ι2,g2,r2⟩:=Ey hr.fin hn ho gd rv
 grind
theorem ACalls.freshE {P g args} {α:Type} {S:Nat} {f:α->PV} {R:List α->Prop} (h:ACalls P g args [] fun x H'=> ∃l:List α,R l/\ ∃o,x= .sl o 0 l.length l.length/\oat H' o= .elems S (l.map f)) :
  ACalls P g args [] fun x H'=> ∃l:List α,R l/\x= .sl 0 0 l.length l.length/\H'= [.elems S (l.map f)]:=by
 refine ⟨h.1,fun F ι w vs hr hv=> ?_⟩;have hι:ι= []:=Zy hr.len;subst hι;refine (h.2 F [] w vs hr hv).mono ?_;rintro e w' ⟨x,H',ι',v,rfl,⟨l,hl,o,rfl,ho⟩,gd,rv⟩;obtain ⟨ι2,g2,r2⟩:=Ey hr.fin Zb ho gd rv
 grind
theorem ACalls.frozen {P g args} {S n:Nat} {xs:List PV} (hn:xs.length=n) (h:ACalls P g args [] fun x H'=>x= .sl 0 0 n n/\H'= [.elems S xs]):ACalls P g args [] fun x H'=>x= .p (.list false xs)/\H'= []:=by
 refine ⟨h.1,fun F ι w vs hr hv=> ?_⟩;have hι:ι= []:=Zy hr.len;subst hι;refine (h.2 F [] w vs hr hv).mono ?_;rintro e w' ⟨x,H',ι',v,rfl,⟨rfl,rfl⟩,gd,rv⟩;have hk:Keeps (Own F ι') w' (Own F []) w':=fun b hb hs=>⟨fun h=>hb (.inl (by rcases h with h | h;exact h;simp at h)),hs,rfl⟩
 have:=Kx (S:=S) (xs:=xs) (off:=0) (len:=n) (tot:=n) (Own F []) (fun b hb h=>by
  rcases h with h | h
  ·exact (gd.rel.avo 0 b hb).1 h
  ·simp at h) hk gd.rel rfl hn Za rv
 rw [XJ,List.drop_zero,Jp Za] at this;exact ⟨_,[],[],v,rfl,⟨rfl,rfl⟩,gd.forget hr.env hr.fin,.p _ _ this⟩
theorem ACalls.frozenE {P g args} {α:Type} {S:Nat} {f:α->PV} {R:List α->Prop} (h:ACalls P g args [] fun x H'=> ∃l:List α,R l/\x= .sl 0 0 l.length l.length/\H'= [.elems S (l.map f)]) :
  ACalls P g args [] fun x H'=> ∃l:List α,R l/\x= .p (.list false (l.map f))/\H'= []:=by
 refine ⟨h.1,fun F ι w vs hr hv=> ?_⟩;have hι:ι= []:=Zy hr.len;subst hι;refine (h.2 F [] w vs hr hv).mono ?_;rintro e w' ⟨x,H',ι',v,rfl,⟨l,hl,rfl,rfl⟩,gd,rv⟩;have hk:Keeps (Own F ι') w' (Own F []) w':=fun b hb hs=>⟨fun h=>hb (.inl (by rcases h with h | h;exact h;simp at h)),hs,rfl⟩
 have:=Kx (S:=S) (xs:=l.map f) (off:=0) (len:=l.length) (tot:=l.length) (Own F []) (fun b hb h=>by
  rcases h with h | h
  ·exact (gd.rel.avo 0 b hb).1 h
  ·simp at h) hk gd.rel rfl Zb Za rv
 rw [XJ,List.drop_zero,Jp Zb] at this;exact ⟨_,[],[],v,rfl,⟨l,hl,rfl,rfl⟩,gd.forget hr.env hr.fin,.p _ _ this⟩
theorem ACalls.useV {P g args} {α:Type} {f:α->PV} {R:α->Prop} {H:List Obj} {K:V->List Obj->Prop} (h:ACalls P g args [] fun x H'=> ∃a:α,R a/\x= .p (f a)/\H'= []) (k: ∀a,R a->K (.p (f a)) H) (ha:Xd 0 args=true:=by rfl):ACalls P g args H K:=by
 refine (h.behind ha H).mono ?_;rintro x H' ⟨y',H1,⟨a,ra,rfl,rfl⟩,rfl,rfl⟩
 grind [shV]
theorem ACalls.useE {P g args} {α:Type} {S:Nat} {f:α->PV} {R:List α->Prop} {H:List Obj} {K:V->List Obj->Prop} (h:ACalls P g args [] fun x H'=> ∃l:List α,R l/\x= .sl 0 0 l.length l.length/\H'= [.elems S (l.map f)])
  (k: ∀l,R l->K (.sl H.length 0 l.length l.length) (H++ [.elems S (l.map f)])) (ha:Xd 0 args=true:=by rfl):ACalls P g args H K:=by
 refine (h.behind ha H).mono ?_;rintro x H' ⟨y',H1,⟨l,rl,rfl,rfl⟩,rfl,rfl⟩
 grind [shV,shO]
theorem ACalls.use {P g args} {y:PV} {H:List Obj} {K:V->List Obj->Prop} (h:ACalls P g args [] fun x H'=>x= .p y/\H'= []) (k:K (.p y) H) (ha:Xd 0 args=true:=by rfl):ACalls P g args H K:=by
 refine (h.behind ha H).mono ?_;rintro x H' ⟨y',H1,⟨rfl,rfl⟩,rfl,rfl⟩
 grind [shV]
theorem ACalls.useF {P g args} {S n:Nat} {xs:List PV} {H:List Obj} {K:V->List Obj->Prop} (h:ACalls P g args [] fun x H'=>x= .sl 0 0 n n/\H'= [.elems S xs]) (k:K (.sl H.length 0 n n) (H++ [.elems S xs])) (ha:Xd 0 args=true:=by rfl):ACalls P g args H K:=by
 refine (h.behind ha H).mono ?_;rintro x H' ⟨y',H1,⟨rfl,rfl⟩,rfl,rfl⟩
 grind [shV,shO]
theorem Zc {P:Program} {g:FuncId} {fn:Func} {c:Code} {args:List V} {y:PV} (hf:P.funcs[g]? =some fn) (hb:fn.body=some c) (hg:Zi P g)
  (h:Jh [] P c (args++List.replicate (fn.ntmps-args.length) .junk) [] (JV P fn.results.toList fun x _=>x= .p y)):ACalls P g args [] fun x H'=>x= .p y/\H'= [] :=
 (Yc hf hb hg (Zg [] _ _ _ _ h)).pure
theorem Q8 (cuts:List Nat) {P:Program} {g:FuncId} {fn:Func} {c:Code} {args:List V} {y:PV} (hf:P.funcs[g]? =some fn) (hb:fn.body=some c) (hg:Zi P g)
  (h:Jh cuts P c (args++List.replicate (fn.ntmps-args.length) .junk) [] (JV P fn.results.toList fun x _=>x= .p y)):ACalls P g args [] fun x H'=>x= .p y/\H'= [] :=
 (Yc hf hb hg (Zg cuts _ _ _ _ h)).pure
theorem Ua {P:Program} {g:FuncId} {fn:Func} {c:Code} {args:List V} {S n:Nat} {xs:List PV} (hn:xs.length=n) (hf:P.funcs[g]? =some fn) (hb:fn.body=some c) (hg:Zi P g)
  (h:Jh [] P c (args++List.replicate (fn.ntmps-args.length) .junk) [] (JV P fn.results.toList fun x H'=> ∃o,x= .sl o 0 n n/\oat H' o= .elems S xs)):ACalls P g args [] fun x H'=>x= .sl 0 0 n n/\H'= [.elems S xs] :=
 (Yc hf hb hg (Zg [] _ _ _ _ h)).fresh hn
theorem FC (cuts:List Nat) {P:Program} {g:FuncId} {fn:Func} {c:Code} {args:List V} {S n:Nat} {xs:List PV} (hn:xs.length=n) (hf:P.funcs[g]? =some fn) (hb:fn.body=some c) (hg:Zi P g)
  (h:Jh cuts P c (args++List.replicate (fn.ntmps-args.length) .junk) [] (JV P fn.results.toList fun x H'=> ∃o,x= .sl o 0 n n/\oat H' o= .elems S xs)):ACalls P g args [] fun x H'=>x= .sl 0 0 n n/\H'= [.elems S xs] :=
 (Yc hf hb hg (Zg cuts _ _ _ _ h)).fresh hn
theorem Z9 (cuts:List Nat) {P:Program} {g:FuncId} {fn:Func} {c:Code} {args:List V} {α:Type} {S:Nat} {f:α->PV} {R:List α->Prop} (hf:P.funcs[g]? =some fn) (hb:fn.body=some c) (hg:Zi P g)
  (h:Jh cuts P c (args++List.replicate (fn.ntmps-args.length) .junk) [] (JV P fn.results.toList fun x H'=> ∃l:List α,R l/\ ∃o,x= .sl o 0 l.length l.length/\oat H' o= .elems S (l.map f))):ACalls P g args [] fun x H'=> ∃l:List α,R l/\x= .sl 0 0 l.length l.length/\H'= [.elems S (l.map f)] :=
 (Yc hf hb hg (Zg cuts _ _ _ _ h)).freshE
theorem Weak.ofNil {n0 fr H fr' H'} (t S:Nat) (h:gt fr t= .p (.list true [])) (hn:n0<=H.length) (k:Weak n0 (pt fr t (.sl H.length 0 0 0)) (H++ [.elems S []]) fr' H'):Weak n0 fr H fr' H' :=
 (Weak.nil t S h hn).trans k
end Go.AM
namespace Go.AM
open Go.RowKit
section
variable {P : Program} {H : List Obj} {t : TypeId} {fr : List V}
def Eb (e:Option (Option Nat×Nat)) (c:Bool) (xs:List PV) (lo hi:V):Option V:=match e,lo,hi with
 | some (none,S),.p (.int _ a),.p (.int _ b)=>if Cq S xs=true/\0<=a/\a<=b/\b<=xs.length then some (.p (.list (c&&decide (b=xs.length)) ((xs.take b.toNat).drop a.toNat))) else none
 | _,_,_=>none
def V.isInt : V->Option Int
 | .p (.int _ n)=>some n
 | _=>none
theorem V.isInt_some {x:V} {n} (h:x.isInt=some n): ∃k,x= .p (.int k n):=by
 unfold V.isInt at h;grind
theorem QE {d:Int} {x:Operand} :M0 d fr (some x)=(ev fr x).isInt:=rfl
theorem Cr {c xs k k' a b} :(Jf P t c xs a b none).map .p=Eb (YK P t) c xs (.p (.int k a)) (.p (.int k' b)):=by
 simp only [Jf,Eb]
 grind
theorem OM {e c xs lo hi} (h:lo.isInt=none):Eb e c xs lo hi=none:=by
 unfold Eb;grind [V.isInt]
theorem OL {e c xs lo hi} (h:hi.isInt=none):Eb e c xs lo hi=none:=by
 unfold Eb;grind [V.isInt]
@[go_sem] theorem Zc5 {c xs hi} :WQ P H t fr (.p (.list c xs)) none (some hi) none=Eb (YK P t) c xs (.p (.int .i64 0)) (ev fr hi):=by
 simp only [WQ,QE]
 cases h:(ev fr hi).isInt with
 | none=>simp [M0,OL h]
 | some n=>obtain ⟨k,e⟩:=V.isInt_some h;rw [e,<- Cr];rfl
@[go_sem] theorem Zc6 {c xs lo} :WQ P H t fr (.p (.list c xs)) (some lo) none none=Eb (YK P t) c xs (ev fr lo) (.p (.int .i64 (List.length xs))):=by
 simp only [WQ,QE]
 cases h:(ev fr lo).isInt with
 | none=>simp [OM h]
 | some n=>obtain ⟨k,e⟩:=V.isInt_some h;rw [e,<- Cr];rfl
@[go_sem] theorem rX {c xs lo hi} :WQ P H t fr (.p (.list c xs)) (some lo) (some hi) none=Eb (YK P t) c xs (ev fr lo) (ev fr hi):=by
 simp only [WQ,QE]
 cases h:(ev fr lo).isInt with
 | none=>simp [OM h]
 | some n =>
  cases h2:(ev fr hi).isInt with
  | none=>simp [OL h2]
  | some m=>grind [V.isInt_some,Cr]
@[go_sem] theorem Zgt {α:Type} {f:α->PV} {l:List α} {S c k k' a b} (h0:0<=a) (h1:a<=b) (h2:b<=(l.length:Int)) :
  Eb (some (none,S)) c (l.map f) (.p (.int k a)) (.p (.int k' b))=if Cq S (l.map f)=true then some (.p (.list (c&&decide (b=l.length)) (((l.take b.toNat).drop a.toNat).map f))) else none:=by
 simp_all [Eb]
end
def II (P:Program) (d:Option TypeDesc) (x i:V):Option V :=
 match d,x,i with
 | some .string,.p (.str s),.p (.int _ n)=>if 0<=n then (s[n.toNat]?).map fun b=> .p (.int .u8 b.toNat) else none
 | some (.array k e),.p (.agg cs),.p (.int _ n)=>if 0<=n/\n<k then (match YI P e with | some m=>(apart P e cs (n.toNat*m)).map .p | none=>none) else none
 | _,_,_=>none
@[go_sem] theorem ZjL {P:Program} {t:TypeId} {x i:V} :IJ P t x i=II P (P.underlying t) x i:=Zh rfl rfl
@[go_sem] theorem ZcM {P:Program} {s:List UInt8} {k n} (h0:0<=n) (h1:n<(s.length:Int)):II P (some .string) (.p (.str s)) (.p (.int k n))=some (.p (.int .u8 ((nth s n.toNat).toNat:Nat))):=by
 grind [II,Ze]
def Hp (d:Option TypeDesc) (s:List UInt8) (lo hi:V):Option V:=match d,lo,hi with
 | some .string,.p (.int _ a),.p (.int _ b)=>if 0<=a/\a<=b/\b<=s.length then some (.p (.str ((s.take b.toNat).drop a.toNat))) else none
 | _,_,_=>none
theorem kZ {d s lo hi} (h:lo.isInt=none):Hp d s lo hi=none:=by
 unfold Hp;grind [V.isInt]
theorem kY {d s lo hi} (h:hi.isInt=none):Hp d s lo hi=none:=by
 unfold Hp;grind [V.isInt]
section
variable {P : Program} {H : List Obj} {t : TypeId} {fr : List V}
theorem Ru {s:List UInt8} {k k' a b} :(match P.underlying t with | some .string=>(if 0<=a/\a<=b/\b<=(s.length:Int) then some (V.p (.str ((s.take b.toNat).drop a.toNat))) else none) | _=>none)=Hp (P.underlying t) s (.p (.int k a)) (.p (.int k' b)):=by
 simp only [Hp]
 grind
@[go_sem] theorem lA {s lo hi} :WQ P H t fr (.p (.str s)) (some lo) (some hi) none=Hp (P.underlying t) s (ev fr lo) (ev fr hi):=by
 simp only [WQ,QE]
 cases h:(ev fr lo).isInt with
 | none=>rw [kZ h];simp
 | some n =>
  cases h2:(ev fr hi).isInt with
  | none=>rw [kY h2];simp
  | some m =>
   grind [V.isInt_some,Ru]
def IQ (e:Option (Option Nat×Nat)) (xs:List PV) (hi mx:V):Option V:=match e,hi,mx with
 | some (none,S),.p (.int _ b),.p (.int _ m)=>if Cq S xs=true/\0<=b/\b<=xs.length/\m=b then some (.p (.list true (xs.take b.toNat))) else none
 | _,_,_=>none
theorem kW {e xs hi mx} (h:hi.isInt=none):IQ e xs hi mx=none:=by
 unfold IQ;grind [V.isInt]
theorem kX {e xs hi mx} (h:mx.isInt=none):IQ e xs hi mx=none:=by
 unfold IQ;grind [V.isInt]
@[go_sem] theorem rW {c xs hi mx} :WQ P H t fr (.p (.list c xs)) none (some hi) (some mx)=IQ (YK P t) xs (ev fr hi) (ev fr mx):=by
 simp only [WQ,QE]
 cases h:(ev fr hi).isInt with
 | none=>grind [kW]
 | some n =>
  cases h2:(ev fr mx).isInt with
  | none=>grind [kX]
  | some m =>
   obtain ⟨k,e⟩:=V.isInt_some h;obtain ⟨k2,e2⟩:=V.isInt_some h2;rw [e,e2];simp only [M0,Jf,IQ]
   grind
@[go_sem] theorem Zgs {α:Type} {f:α->PV} {l:List α} {S k k' b m} (h0:m=b) (h1:b=(l.length:Int)):IQ (some (none,S)) (l.map f) (.p (.int k b)) (.p (.int k' m))=if Cq S (l.map f)=true then some (.p (.list true (l.map f))) else none:=by
 subst h0;subst h1;simp only [IQ,Zx]
 by_cases h:Cq S (l.map f)=true
 ·simp_all [Jp]
 grind
end
@[go_sem low] theorem T7 {H:List Obj} {S b xs ys o n} :Uv H (some (S,b)) (.elems S xs) o n (some ys)=if xs.length=n/\AD S ys=true/\(n+ys.length)*b<=140737488355328/\n+ys.length<=140737488355328 then some (.sl o 0 (n+ys.length) (n+ys.length),EV H o (.elems S (xs++ys))) else none:=by simp [Uv]
@[go_sem] theorem ZlA {H:List Obj} {n f a b f' a' b'} :Fu H n (.fn f a b) (.fn f' a' b')=((f'=f/\a'=a/\b'=b)/\refB n (.fn f a b)=true):=by simp [Fu,kA]
@[go_sem] theorem ZkQ {n f a b} :refB n (.fn f a b)=(Xd n a&&Xd n b):=by simp [refB]
@[go_sem] theorem ZmI {n x} :refB n (.p x)=true:=by simp [refB]
@[go_sem] theorem Zik {n o off} :refB n (.ptr o off)=decide (o<n):=by simp [refB]
@[go_sem] theorem ZkR {n o off l t} :refB n (.sl o off l t)=decide (o<n):=by simp [refB]
@[go_sem] theorem ZdT {n} :Xd n []=true:=by simp [Xd]
@[go_sem] theorem ZbV {n x l} :Xd n (x::l)=(refB n x&&Xd n l):=by simp [Xd]
theorem ACalls.useH {P g args H} {v:V} {H2:List Obj} {K:V->List Obj->Prop} (h:ACalls P g args H fun x H'=>x=v/\H'=H2) (k:K v H2):ACalls P g args H K :=
 h.mono (by grind)
theorem D7 {α:Type} {f:α->PV} {S:Nat} (h: ∀x,(f x).cells.length=S) (l:List α):Cq S (l.map f)=true:=by
 cases l with
 | nil=>rfl
 | cons x l=>simp [Cq,h]
@[go_sem] theorem ZjP {k k'} {a b:Int} (h:b<=a):Hh false [.p (.int k a),.p (.int k' b)]=some (.int k a):=by simp [Hh];omega
def Uu (F:Option (Nat×Nat×PV)) (H:List Obj) (x y:V):Option (V×List Obj):=match F,x,y with
 | some (S,by',z),.p (.int .i64 n),.p (.int .i64 m)=>if n=m/\0<=n/\(by':Int)*n<=281474976710656/\n<=281474976710656 then some (.sl H.length 0 n.toNat n.toNat,H++ [.elems S (List.replicate n.toNat z)]) else none
 | _,_,_=>none
theorem AL {P:Program} {t:TypeId} {fr:List V} {H:List Obj} {x y:Operand} {F} (h:LQ P t=some F):Wn P (.makeSlice t x y) fr H=Uu (some F) H (ev fr x) (ev fr y):=by
 unfold LQ at h
 split at h
 ·rename_i e hu
  split at h
  ·rename_i S' z' b h1 h2 h3
   split at h
   ·rename_i hc;simp at h;subst h
    have h3':(P.info? e).map (fun x=>(x.bytes:Int))=some (b:Int):=by
     cases hi:P.info? e with
     | none=>grind
     | some i=>grind
    simp only [Wn,hu,h2,hc.1,if_true,OG,h1,h3'];generalize ev fr x=X;generalize ev fr y=Y
    by_cases hX: ∃n,X= .p (.int .i64 n)
    ·obtain ⟨n,rfl⟩:=hX
     by_cases hY: ∃m,Y= .p (.int .i64 m)
     ·obtain ⟨m,rfl⟩:=hY;simp [Uu,hc.2]
     ·have e1:Uu (some (S',b,z')) H (.p (.int .i64 n)) Y=none:=by
       unfold Uu;grind
      grind
    ·have e1:Uu (some (S',b,z')) H X Y=none:=by
      unfold Uu;grind
     grind
   ·cases h
  ·cases h
 ·cases h
@[go_sem] theorem ZcU {H:List Obj} {S b:Nat} {z n} (h0:0<=n) (h1:(b:Int)*n<=281474976710656) (h2:n<=281474976710656):Uu (some (S,b,z)) H (.p (.int .i64 n)) (.p (.int .i64 n))=some (.sl H.length 0 n.toNat n.toNat,H++ [.elems S (List.replicate n.toNat z)]):=by
 simp_all [Uu]
theorem ZbJ (x y:Nat) (hx:x<9223372036854775808) (hy:y<9223372036854775808):IntKind.i64.wrap ((BitVec.ofInt 64 (x:Int)|||BitVec.ofInt 64 (y:Int)).toNat:Int)=((x|||y:Nat):Int):=by
 have e:(BitVec.ofInt 64 (x:Int)|||BitVec.ofInt 64 (y:Int)).toNat=x|||y:=by
  grind
 have h:x|||y<2^63:=Qt Za Za
 grind [IntWalk.i64_in]
theorem kJ (x y:Nat) (hx:x<9223372036854775808) (hy:y<9223372036854775808):IntKind.i64.wrap ((BitVec.ofInt 64 (x:Int)&&&BitVec.ofInt 64 (y:Int)).toNat:Int)=((x&&&y:Nat):Int):=by
 grind [Nat.and_le_left,IntWalk.i64_in]
@[go_sem high] theorem TR {P:Program} {t:TypeId} {x y:Nat} (hx:x<9223372036854775808) (hy:y<9223372036854775808):Yb P .or t (.p (.int .i64 (x:Int))) (.p (.int .i64 (y:Int)))=some (.int .i64 ((x|||y:Nat):Int)):=by
 rw [OC];exact XC (fun q=>some (PV.int .i64 q)) (ZbJ x y hx hy)
@[go_sem high] theorem Rj {P:Program} {t:TypeId} {x y:Nat} (hx:x<9223372036854775808) (hy:y<9223372036854775808):Yb P .and t (.p (.int .i64 (x:Int))) (.p (.int .i64 (y:Int)))=some (.int .i64 ((x&&&y:Nat):Int)):=by
 rw [TP];exact XC (fun q=>some (PV.int .i64 q)) (kJ x y hx hy)
def pw (k:Nat):Nat:=2^k
theorem oZ (k:Nat):pw (k+1)=2*pw k:=by grind [pw]
theorem Dg {k m:Nat} (h:k<=m):pw k<=pw m:=Yw Za h
theorem If (k:Nat):0<pw k:=Nat.pow_pos Za
theorem GO : pw 62=4611686018427387904:=by decide
@[go_sem high] theorem Zcx {P:Program} {t:TypeId} {k'} {a:Int} (h0:0<=a) (h1:a<=62):Yb P .shl t (.p (.int .i64 1)) (.p (.int k' a))=some (.int .i64 ((pw a.toNat:Nat):Int)):=by
 rw [TT h0]
 have h2:min a.toNat IntKind.i64.bits=a.toNat:=by show min a.toNat 64=a.toNat;omega
 rw [h2,Int.one_mul]
 have h3:((2:Int)^a.toNat)=((pw a.toNat:Nat):Int):=by simp [pw]
 rw [h3];have:=Dg (show a.toNat<=62 by omega)
 grind [GO,IntWalk.i64_in]
attribute [go_sem] List.length_append List.map_append not_false_eq_true not_true_eq_false false_and and_false true_or or_true false_or or_false Classical.not_not Bool.false_eq_true Bool.and_false Bool.false_and
end Go.AM
namespace Go.AM
open Go.RowKit
theorem HQ {P ds frJ H} {K K':List V->Prop} : ∀(l:List Oper) (i:Nat) (vals:List V),(∀ys,ys.length=vals.length+l.length->K ys->K' ys)->hd P ds frJ H K i l vals->hd P ds frJ H K' i l vals
 | [],i,vals,hk,h=>hk vals rfl h
 | o::l,i,vals,hk,h=>by
  have ih: ∀y,hd P ds frJ H K (i+1) l (vals++ [y])->hd P ds frJ H K' (i+1) l (vals++ [y]):=fun y=>HQ l (i+1) (vals++ [y]) fun ys hy=>hk ys (by simp at hy ⊢;omega);simp only [hd] at h ⊢
  split at h
  ·obtain ⟨y,h1,h2⟩:=h;exact ⟨y,h1,ih y h2⟩
  ·unfold Xv at h ⊢
   split at h
   ·exact ⟨fun e=>by obtain ⟨y,h1,h2⟩:=h.1 e;exact ⟨y,h1,ih y h2⟩,fun e=>ih _ (h.2 e)⟩
   ·exact ih _ h
   ·exact h.elim
def hall : List (Option Nat)->List V->List V->List V
 | some d::ds,v::vals,fr=>hall ds vals (pt fr d v)
 | none::ds,_::vals,fr=>hall ds vals fr
 | _,_,fr=>fr
theorem AX (d:Option Nat) (v:V) (ds:List (Option Nat)) (vals:List V): ∀(l:List Nat) (fr:List V),ZE (d::ds) (v::vals) (l.map (· +1)) fr=ZE ds vals l fr
 | [],fr=>rfl
 | j::l,fr=>by
  simp only [Zu,ZE,K3]
  split<;>exact AX d v ds vals l _
theorem EC : ∀(ds:List (Option Nat)) (vals:List V) (fr:List V),vals.length=ds.length->ZE ds vals (List.range ds.length) fr=hall ds vals fr
 | [],[],fr,_=>rfl
 | d::ds,v::vals,fr,h=>by
  have ih:=fun fr=>EC ds vals fr (by simpa using h);rw [ZH,List.range_succ_eq_map]
  cases d with
  | none=>simp only [ZE,K4,hall];rw [AX];exact ih fr
  | some d=>simp only [ZE,K4,hall];rw [AX];exact ih _
 | [],_::_,_,h=>by simp at h
 | _::_,[],_,h=>by simp at h
theorem Ec {P:Program} {id:Nat} {l:List Oper} {fr:List V} {H:List Obj} {Q:Exit->List V->List Obj->Prop} {t} (hm:P.follows .mixedOrders=true) (hB:Vb (List.toArray l) l.length=true)
  (h:hd P (l.map (·.dst)) (Z0 (l.map (·.dst)) fr) H (Zt (fun vals=>Q .normal (hall (l.map (·.dst)) vals (Z0 (l.map (·.dst)) fr)) H) ⟨⟩) 0 l []) :
  AWP P (.region id (Zt (List.toArray l) t) true) fr H Q:=by
 refine F5 (ops:=List.toArray l) l.length hm hB ?_;have e0:(List.toArray l).toList=l:=rfl;rw [e0];have e1:(l.map (fun x=>Oper.dst x)).take l.length=l.map (·.dst):=Jp Zb;have e2:l.take l.length=l:=X7
 have e3:l.drop l.length= []:=Zb
 rw [e1,e2,e3];refine HQ _ _ _ (fun ys hy hk=> ?_) h;have e4:=EC (l.map (·.dst)) ys (Z0 (l.map (·.dst)) fr) (by grind);rw [Zx] at e4;simp only [YC];rw [e4];exact hk
def R4 (A:V->Prop) (B:V->Prop):Prop:= ∃y,A y/\B y
section
variable {P : Program} {ds : List (Option Nat)} {frJ : List V} {H : List Obj} {K : List V -> Prop} {i : Nat} {r : List Oper} {vals : List V} {d : Option Nat} {op : Op} {t : TypeId} {ps : String} {af : Array Edge}
@[go_sem ↓] theorem Zmm : hd P ds frJ H K i [] vals=K vals:=Zh rfl rfl
@[go_sem ↓] theorem Zkr : hd P ds frJ H K i (⟨d,op,t,ps,af,none⟩::r) vals=R4 (fun y=>ZB P ⟨d,op,t,ps,af,none⟩ (idF (ZE ds vals (ZR i ⟨d,op,t,ps,af,none⟩) frJ)) H (Zt (fun x H'=>x=y/\H'=H) ⟨⟩)) (Zt (fun y=>hd P ds frJ H K (i+1) r (vals++ [y])) ⟨⟩):=Zh rfl rfl
@[go_sem ↓, go_sem] theorem Zmb {v:V} {B:V->Prop} {t} :R4 (fun y=>v=y) (Zt B t)=B v:=by simp [R4,Zt]
@[go_sem] theorem Zdq {l:List Edge} {g} :ZR i ⟨d,op,t,ps,List.toArray l,g⟩=(l.filter fun e=>Region.binds .any e&&decide (e.on<i)).map (·.on):=Zh rfl rfl
@[go_sem] theorem vL {on} :Region.binds .any ⟨on,.data⟩=true:=Zh rfl rfl
@[go_sem] theorem sK {on} :Region.binds .any ⟨on,.phase⟩=true:=Zh rfl rfl
@[go_sem] theorem sJ {on} :Region.binds .any ⟨on,.chain⟩=true:=Zh rfl rfl
@[go_sem] theorem vM {on k} :Region.binds .any ⟨on,.textOnly k⟩=false:=Zh rfl rfl
@[go_sem] theorem Zgz {on k} :Region.binds .any ⟨on,.gcOnly k⟩=false:=Zh rfl rfl
def Pi (ds:List (Option Nat)) (vals:List V) (l:List Nat) (fr:List V) (a:Option (Option Nat)) (v:Option V):List V:=match a,v with
 | some (some d),some v=>ZE ds vals l (pt fr d v)
 | _,_=>ZE ds vals l fr
@[go_sem] theorem Zhb {fr} :ZE ds vals [] fr=fr:=Zh rfl rfl
@[go_sem] theorem ZdA {j l fr} :ZE ds vals (j::l) fr=Pi ds vals l fr ds[j]? vals[j]? :=by rfl
@[go_sem] theorem wZ {l fr d v} :Pi ds vals l fr (some (some d)) (some v)=ZE ds vals l (pt fr d v):=Zh rfl rfl
@[go_sem] theorem Zdu {d ds v vals fr} :hall (some d::ds) (v::vals) fr=hall ds vals (pt fr d v):=Zh rfl rfl
@[go_sem] theorem Zg5 {fr} :hall [] [] fr=fr:=Zh rfl rfl
@[go_sem] theorem Zdz {fr} :Z0 [] fr=fr:=Zh rfl rfl
@[go_sem] theorem wY {d l fr} :Z0 (some d::l) fr=Z0 l (pt fr d .junk):=Zh rfl rfl
theorem Zp {f azs} {z:PV} {B:V->Prop} {t} (h:ACalls P f azs [] fun x H'=>x= .p z/\H'= []) (k:B (.p z)) (ha:Xd 0 azs=true:=by rfl) :
  R4 (fun y=>ACalls P f azs H (Zt (Zt (fun x H'=>x=y/\H'=H) ⟨⟩) ⟨⟩)) (Zt B t) :=
 ⟨.p z,h.use ⟨rfl,rfl⟩ ha,k⟩
end
section
variable {P : Program} {fr : List V} {H : List Obj} {k : V -> List Obj -> Prop} {d : Option Nat} {t : TypeId} {ps : String} {af : Array Edge} {g : Option (Nat × Bool)}
@[go_sem ↓] theorem uX {u n l} :ZB P ⟨d,.buildSlice u n (List.toArray l),t,ps,af,g⟩ fr H k=A2 ((IL (UX P u) H n (l.map fun x=>(x.1,ev fr x.2))).map .p) (Zt (fun v=>k v H) ⟨⟩):=by
 grind [ZB,A2,Zt]
@[go_sem] theorem uG {S n l} :IL (some S) H n l=if n=l.length/\n*S<=16777216/\0<S then (QS H S 0 l).map (.list false) else none:=Zh rfl rfl
@[go_sem ↓] theorem sA {x} :ZB P ⟨d,.move x,t,ps,af,g⟩ fr H k=Zr P ⟨d,.move x,t,ps,af,g⟩ fr H k:=rfl
@[go_sem ↓] theorem jT {x} :ZB P ⟨d,.assign x,t,ps,af,g⟩ fr H k=Zr P ⟨d,.assign x,t,ps,af,g⟩ fr H k:=rfl
@[go_sem ↓] theorem sB {x y z} :ZB P ⟨d,.pick x y z,t,ps,af,g⟩ fr H k=Zr P ⟨d,.pick x y z,t,ps,af,g⟩ fr H k:=rfl
@[go_sem ↓] theorem lB {x} :ZB P ⟨d,.alloc x,t,ps,af,g⟩ fr H k=Zr P ⟨d,.alloc x,t,ps,af,g⟩ fr H k:=rfl
@[go_sem ↓] theorem uV {x y} :ZB P ⟨d,.box x y,t,ps,af,g⟩ fr H k=Zr P ⟨d,.box x y,t,ps,af,g⟩ fr H k:=rfl
@[go_sem ↓] theorem lD {x y} :ZB P ⟨d,.build x y,t,ps,af,g⟩ fr H k=Zr P ⟨d,.build x y,t,ps,af,g⟩ fr H k:=rfl
@[go_sem ↓] theorem rZ {x y} :ZB P ⟨d,.load x y,t,ps,af,g⟩ fr H k=Zr P ⟨d,.load x y,t,ps,af,g⟩ fr H k:=rfl
@[go_sem ↓] theorem lH {x y z} :ZB P ⟨d,.store x y z,t,ps,af,g⟩ fr H k=Zr P ⟨d,.store x y z,t,ps,af,g⟩ fr H k:=rfl
@[go_sem ↓] theorem Ty {x} :ZB P ⟨d,.nilCheck x,t,ps,af,g⟩ fr H k=Zr P ⟨d,.nilCheck x,t,ps,af,g⟩ fr H k:=rfl
@[go_sem ↓] theorem lC {x y z u v} :ZB P ⟨d,.binOp x y z u v,t,ps,af,g⟩ fr H k=Zr P ⟨d,.binOp x y z u v,t,ps,af,g⟩ fr H k:=rfl
@[go_sem ↓] theorem sC {x y z} :ZB P ⟨d,.unOp x y z,t,ps,af,g⟩ fr H k=Zr P ⟨d,.unOp x y z,t,ps,af,g⟩ fr H k:=rfl
@[go_sem ↓] theorem aB {x y z} :ZB P ⟨d,.convert x y z,t,ps,af,g⟩ fr H k=Zr P ⟨d,.convert x y z,t,ps,af,g⟩ fr H k:=rfl
@[go_sem ↓] theorem Tx {x y z} :ZB P ⟨d,.makeFunc x y z,t,ps,af,g⟩ fr H k=Zr P ⟨d,.makeFunc x y z,t,ps,af,g⟩ fr H k:=rfl
@[go_sem ↓] theorem Rx {x y z} :ZB P ⟨d,.makeSlice x y z,t,ps,af,g⟩ fr H k=Zr P ⟨d,.makeSlice x y z,t,ps,af,g⟩ fr H k:=rfl
@[go_sem ↓] theorem lG {x y z u v} :ZB P ⟨d,.slice x y z u v,t,ps,af,g⟩ fr H k=Zr P ⟨d,.slice x y z u v,t,ps,af,g⟩ fr H k:=rfl
@[go_sem ↓] theorem Rv {x y z} :ZB P ⟨d,.fieldAddr x y z,t,ps,af,g⟩ fr H k=Zr P ⟨d,.fieldAddr x y z,t,ps,af,g⟩ fr H k:=rfl
@[go_sem ↓] theorem lE {x y z} :ZB P ⟨d,.field x y z,t,ps,af,g⟩ fr H k=Zr P ⟨d,.field x y z,t,ps,af,g⟩ fr H k:=rfl
@[go_sem ↓] theorem Rw {x y z} :ZB P ⟨d,.indexAddr x y z,t,ps,af,g⟩ fr H k=Zr P ⟨d,.indexAddr x y z,t,ps,af,g⟩ fr H k:=rfl
@[go_sem ↓] theorem lF {x y z} :ZB P ⟨d,.index x y z,t,ps,af,g⟩ fr H k=Zr P ⟨d,.index x y z,t,ps,af,g⟩ fr H k:=rfl
@[go_sem ↓] theorem aC {x y} :ZB P ⟨d,.extract x y,t,ps,af,g⟩ fr H k=Zr P ⟨d,.extract x y,t,ps,af,g⟩ fr H k:=rfl
@[go_sem ↓] theorem rY {x y z} :ZB P ⟨d,.call ⟨.value x,y,z⟩,t,ps,af,g⟩ fr H k=Zr P ⟨d,.call ⟨.value x,y,z⟩,t,ps,af,g⟩ fr H k:=rfl
@[go_sem ↓] theorem uW {y z} :ZB P ⟨d,.call ⟨.builtin .len,y,z⟩,t,ps,af,g⟩ fr H k=Zr P ⟨d,.call ⟨.builtin .len,y,z⟩,t,ps,af,g⟩ fr H k:=rfl
@[go_sem ↓] theorem uY {y z} :ZB P ⟨d,.call ⟨.builtin .max,y,z⟩,t,ps,af,g⟩ fr H k=Zr P ⟨d,.call ⟨.builtin .max,y,z⟩,t,ps,af,g⟩ fr H k:=rfl
@[go_sem ↓] theorem uZ {y z} :ZB P ⟨d,.call ⟨.builtin .min,y,z⟩,t,ps,af,g⟩ fr H k=Zr P ⟨d,.call ⟨.builtin .min,y,z⟩,t,ps,af,g⟩ fr H k:=rfl
def O7 (P:Program) (H:List Obj) (t u:TypeId) (x y:V) (k:V->List Obj->Prop):Prop:= ∃S zs,W2 P H t u x y=some (.sl H.length 0 zs.length zs.length,H++ [.elems S zs])/\k (.p (.list false zs)) H
@[go_sem ↓] theorem jS {x y u u2} :ZB P ⟨d,.call ⟨.builtin .append,#[x,y],#[u,u2]⟩,t,ps,af,g⟩ fr H k=O7 P H u u2 (ev fr x) (ev fr y) (Zt k ⟨⟩):=rfl
def Rs (F:Option (Nat×Nat)) (xs:List PV) (ys:Option (List PV)):Option PV:=match F,ys with
 | some (S,by'),some ys=>if AD S ys=true/\AD S xs=true/\(xs= []\/0<ys.length)/\(xs.length+ys.length)*by'<=140737488355328/\xs.length+ys.length<=140737488355328 then some (.list false (xs++ys)) else none
 | _,_=>none
@[go_sem] theorem Zc4 {α:Type} {S b} {f:α->PV} {l:List α} {x:PV} (hb:(l.length+1)*b<=140737488355328) (hb2:l.length+1<=140737488355328):Rs (some (S,b)) (l.map f) (some [x])=if AD S [x]=true/\AD S (l.map f)=true then some (.list false (l.map f++ [x])) else none:=by
 grind [Rs]
theorem NB {u u2:TypeId} {F} {xs:List PV} {y:V} (hF:Jd P u=some F) {tt} :O7 P H u u2 (.p (.list true xs)) y (Zt k tt)=A2 ((Rs (some F) xs (YS (P.underlying u2) H y)).map .p) (Zt (fun v=>k v H) ⟨⟩):=by
 obtain ⟨S,by'⟩:=F;obtain ⟨e,z,h1,h2,h3,h4,h6⟩:=D9 hF;have e1:YS (P.underlying u2) H y=Do P H u2 y:=Zh rfl rfl;rw [e1];unfold O7 Zt
 cases h5:Do P H u2 y with
 | none =>
  grind [W2,Rs,A2]
 | some ys =>
  rw [G8 h1 h2 h3 h4 h5 h6];simp only [Rs]
  by_cases hc:AD S ys=true
  ·rw [if_pos hc];simp only [hc,true_and]
   by_cases hd:AD S xs=true/\(xs= []\/0<ys.length)/\(xs.length+ys.length)*by'<=140737488355328/\xs.length+ys.length<=140737488355328
   ·rw [if_pos hd,if_pos hd];simp only [K5,A2,eq_iff_iff]
    constructor
    ·simp_all
    ·intro hk;exact ⟨S,xs++ys,Zb,hk⟩
   simp_all [if_neg,A2]
  ·simp [hc,A2]
theorem Hr {o fr' H'} (h:fr=fr') (h2:H=H'):ZB P o fr H k=ZB P o fr' H' k:=by rw [h,h2]
end
attribute [congr] Hr
attribute [go_sem] List.filter_cons List.filter_nil
end Go.AM
namespace Go.AM
open Go.RowKit
mutual
/-- no memory in it -/
def Lr : PV->Bool
 | .list _ xs=>xs.isEmpty
 | .agg cs=>C8 cs
 | _=>true
def C8 : List PV->Bool
 | []=>true
 | x::l=>Lr x&&C8 l
end
theorem KS : ∀ {l:List PV},C8 l=true-> ∀(j:Nat) (x:PV),l[j]? =some x->Lr x=true
 | [],_,j,x,h=>by simp at h
 | y::l,hh,j,x,h=>by
  simp [C8] at hh
  cases j with
  | zero=>simp at h;subst h;exact hh.1
  | succ j=>exact KS hh.2 j x (by simpa using h)
theorem RP.anywhere {X X':Nat->Prop} {w w' x v} (h:RP X w x v) (hf:Lr x=true):RP X' w' x v:=by
 induction h with
 | int k n=>exact .int k n
 | bool b=>exact .bool b
 | str s=>exact .str s
 | nilp=>exact .nilp
 | nili=>exact .nili
 | nilf=>exact .nilf
 | nilm=>exact .nilm
 | fn f=>exact .fn f
 | nils cl=>exact .nils cl
 | emp cl a cap hc hm ha=>exact .emp cl a cap hc hm ha
 | list cl xs b off cap S u hX hb hc hm hcl hS hu hr ih =>
  have:xs= []:=by grind [Lr]
  subst this;exact .emp cl _ cap (fun h=>by grind) hm (fun _ x hx=>by grind)
 | agg cs a hs _ ih=>exact .agg cs a hs fun j c hj=>ih j c hj (KS (by grind [Lr]) j c hj)
def vw (H:List Obj):V->Option V
 | .p x=>some (.p x)
 | .fn f [] []=>some (.fn f [] [])
 | .sl o off len tot=>match oat H o with
  | .elems _ xs=>if xs.length=tot/\off+len<=tot then some (.p (.list false ((xs.take (off+len)).drop off))) else none
  | _=>none
 | _=>none
def vws (H:List Obj):List V->Option (List V)
 | []=>some []
 | x::l=>match vw H x,vws H l with | some y,some ys=>some (y::ys) | _,_=>none
abbrev JY : Nat->Prop:=fun _=>False
theorem BV {b:Nat} : ¬Own JY [] b:=by simp [Own]
theorem tN {F H ι w x v y} (hr:Rel F H ι w) (h:RV F H ι w x v) (hy:vw H x=some y):RV JY [] [] w y v:=by
 unfold vw at hy
 split at hy
 ·simp at hy;subst hy
  cases h with | p _ _ h=>exact .p _ _ (h.weaker fun b hb=>absurd hb BV)
 ·simp at hy;subst hy;generalize v=u at h
  cases h with
  | fn _ _ _ a e hs ht _ _=>exact .fn _ [] [] a e hs ht (fun j c hj=>by simp at hj) (fun j c hj=>by simp at hj)
 ·rename_i o off len tot
  split at hy
  ·rename_i S xs ho
   split at hy
   ·rename_i hc;simp at hy;subst hy;exact .p _ _ (Kx _ (fun b _ hb=>BV hb) (fun b _ hs=>⟨BV,hs,rfl⟩) hr (Z1 ho Zb) hc.1 hc.2 h)
   ·cases hy
  ·cases hy
 ·cases hy
theorem IA {H} : ∀ {l l':List V},vws H l=some l'->l'.length=l.length/\ ∀(j:Nat) (y:V),l'[j]? =some y-> ∃x,l[j]? =some x/\vw H x=some y
 | [],l',h=>by simp [vws] at h;grind
 | x::l,l',h=>by
  simp only [vws] at h
  split at h
  ·rename_i y ys h1 h2;simp at h;subst h;obtain ⟨e,hg⟩:=IA h2;refine ⟨by simp [e],fun j z hj=> ?_⟩
   cases j with
   | zero=>simp at hj;subst hj;exact ⟨x,Zb,h1⟩
   | succ j=>obtain ⟨q,q1,q2⟩:=hg j z (by simpa using hj);exact ⟨q,by simpa using q1,q2⟩
  ·cases h
theorem Good.lift {F H ι w H1 ι1 w'} (hr:Rel F H ι w) (g:Good JY [] [] w H1 ι1 w') (h1: ∀(o:Nat) (ob:Obj),H1[o]? =some ob-> ∃S xs,ob= .elems S xs/\C8 xs=true):Good (Own F ι) [] [] w H1 ι1 w':=by
 have hnew: ∀b,some b∈ι1-> ¬b<w.heap.size:=fun b hb hlt=>g.own b hlt Zb hb
 have hold: ∀b,Own F ι b->b<w.heap.size:=fun b hb=>by
  rcases hb with hb | hb
  ·exact hr.fin b hb
  ·obtain ⟨i,hi⟩:=ZL.1 hb;exact (hr.avo i b hi).2
 refine Good.up hr.env.fresh ⟨⟨g.rel.len,fun b hb=>by have:=hold b hb;have:=g.size;omega,g.rel.inj,fun i b hi=> ?_,fun o cs ho=> ?_,fun o S xs ho=> ?_,fun o es ho=>(by grind),fun o T E r bs ho=>(by grind)⟩,g.os,g.tape,g.output,g.shape,g.size,g.keep,g.own,g.hx⟩
 ·refine ⟨fun hb=>hnew b (Z5 hi) (hold b hb),(g.rel.avo i b hi).2⟩
 ·grind
 ·rcases g.rel.elm o S xs ho with e | ⟨b,c,t,cap,e1,e2,e3,e4,e5,e6,e7⟩
  ·exact .inl e
  ·refine .inr ⟨b,c,t,cap,e1,e2,e3,e4,e5,e6,fun i x j y hi hj=> ?_⟩;obtain ⟨S',xs',e,hf⟩:=h1 o _ ho;simp at e;obtain ⟨rfl,rfl⟩:=e;have hx:=KS hf i x hi;refine (e7 i x j y hi hj).anywhere ?_
   cases x<;>simp only [PV.cells] at hj
   case agg cs=>grind [KS,Lr]
   all_goals (cases j with
    | zero=>simp at hj;subst hj;exact hx
    | succ j=>simp at hj)
theorem B5 {w:World} (he:Env JY [] w):Rel JY [] [] w:=⟨⟨rfl,fun b hb=>hb.elim,fun i j b hi=>by simp at hi,fun i b hi=>by simp at hi,fun o cs ho=>by simp at ho,fun o S xs ho=>by simp at ho,fun o es ho=>by simp at ho,fun o T E r bs ho=>by simp at ho⟩,he⟩
theorem ACalls.view {P g args args'} {y:PV} {H:List Obj} {K:V->List Obj->Prop} (h:ACalls P g args' [] fun x H'=>x= .p y/\H'= []) (hv:vws H args=some args') (hy:Lr y=true) (k:K (.p y) H):ACalls P g args H K:=by
 refine ⟨h.1,fun F ι w vs hr hvs=> ?_⟩;obtain ⟨e,hg⟩:=IA hv;refine (h.2 JY [] w vs (B5 hr.env.noth) ⟨by rw [hvs.1,e],fun j c hj=> ?_⟩).mono ?_
 ·obtain ⟨x,h1,h2⟩:=hg j c hj;exact tN hr (hvs.2 j x h1) h2
 ·rintro e w' ⟨x,H',ι',v,rfl,⟨rfl,rfl⟩,gd,rv⟩;have g2:=(gd.lift hr (fun o ob ho=>by simp at ho)).behind hr;have hι:ι'= []:=Zy gd.rel.len;subst hι;simp only [Zo,Qu] at g2
  cases rv with | p _ _ rp =>
  exact ⟨_,H,ι,v,rfl,k,g2,.p _ _ (rp.anywhere hy)⟩
theorem ACalls.viewF {P g args args'} {S n:Nat} {xs:List PV} {H:List Obj} {K:V->List Obj->Prop} (h:ACalls P g args' [] fun x H'=>x= .sl 0 0 n n/\H'= [.elems S xs]) (hv:vws H args=some args') (hy:C8 xs=true) (k:K (.sl H.length 0 n n) (H++ [.elems S xs])):ACalls P g args H K:=by
 refine ⟨h.1,fun F ι w vs hr hvs=> ?_⟩;obtain ⟨e,hg⟩:=IA hv;refine (h.2 JY [] w vs (B5 hr.env.noth) ⟨by rw [hvs.1,e],fun j c hj=> ?_⟩).mono ?_
 ·obtain ⟨x,h1,h2⟩:=hg j c hj;exact tN hr (hvs.2 j x h1) h2
 ·rintro e w' ⟨x,H',ι',v,rfl,⟨rfl,rfl⟩,gd,rv⟩
  have gl:=gd.lift hr (fun o ob ho=>by
   grind)
  have g2:=gl.behind hr
  have rv2:RV (Own F ι) [.elems S xs] ι' w' (.sl 0 0 n n) v:=by
   cases rv with
   | slNil _ S a h3 h2=>exact .slNil _ S a h3 h2
   | sl _ _ _ _ b S cap t xs c h1 h2 ht hw hcap hl hlen hm=>exact .sl _ _ _ _ b S cap t xs c h1 h2 ht hw hcap hl hlen hm
   | slD _ _ _ _ _ h1=>simp at h1
   | slS _ _ _ _ _ S xs h1 hne=>exact .slS _ _ _ _ _ S xs h1 hne
   | slC _ _ _ _ _ _ h1=>simp at h1
  exact ⟨_,_,_,v,rfl,by simpa [shV,shO] using k,g2,by simpa [shV] using rv2.sh hr.len⟩
def rd1 (H:List Obj):V->Option PV
 | .p x=>some x
 | .sl o off len tot=>match oat H o with
  | .elems _ xs=>if xs.length=tot/\off+len<=tot then some (.list false ((xs.take (off+len)).drop off)) else none
  | _=>none
 | _=>none
def rds (H:List Obj):List V->Option (List PV)
 | []=>some []
 | x::l=>match rd1 H x,rds H l with | some y,some ys=>some (y::ys) | _,_=>none
def rd (H:List Obj):V->Option PV
 | .agg cs=>(rds H cs).map .agg
 | x=>rd1 H x
theorem iD {F ι H w x v y} (hr:Rel F H ι w) (h:RV F H ι w x v) (hy:rd1 H x=some y):RP (Own F []) w y v:=by
 have hk:Keeps (Own F ι) w (Own F []) w:=fun b hb hs=>⟨fun h=>hb (.inl (by rcases h with h | h;exact h;simp at h)),hs,rfl⟩;unfold rd1 at hy
 split at hy
 ·simp at hy;subst hy
  cases h with | p _ _ h=>exact h.ext hk
 ·rename_i o off len tot
  split at hy
  ·rename_i S xs ho
   split at hy
   ·rename_i hc;simp at hy;subst hy
    exact Kx (Own F []) (fun b hb h=>by
     rcases h with h | h
     ·exact (hr.avo o b hb).1 h
     ·simp at h) hk hr (Z1 ho Zb) hc.1 hc.2 h
   ·cases hy
  ·cases hy
 ·cases hy
theorem PN {H} : ∀ {l:List V} {l':List PV},rds H l=some l'->l'.length=l.length/\ ∀(j:Nat) (y:PV),l'[j]? =some y-> ∃x,l[j]? =some x/\rd1 H x=some y
 | [],l',h=>by simp [rds] at h;grind
 | x::l,l',h=>by
  simp only [rds] at h
  split at h
  ·rename_i y ys h1 h2;simp at h;subst h;obtain ⟨e,hg⟩:=PN h2;refine ⟨by simp [e],fun j z hj=> ?_⟩
   cases j with
   | zero=>simp at hj;subst hj;exact ⟨x,Zb,h1⟩
   | succ j=>obtain ⟨q,q1,q2⟩:=hg j z (by simpa using hj);exact ⟨q,by simpa using q1,q2⟩
  ·cases h
theorem ACalls.read {P g args} {y:PV} (h:ACalls P g args [] fun x H'=>rd H' x=some y):ACalls P g args [] fun x H'=>x= .p y/\H'= []:=by
 refine ⟨h.1,fun F ι w vs hr hv=> ?_⟩;have hι:ι= []:=Zy hr.len;subst hι;refine (h.2 F [] w vs hr hv).mono ?_;rintro e w' ⟨x,H',ι',v,rfl,hy,gd,rv⟩;refine ⟨_,[],[],v,rfl,⟨rfl,rfl⟩,gd.forget hr.env hr.fin,.p _ _ ?_⟩;unfold rd at hy
 split at hy
 ·simp only [ZA] at hy;obtain ⟨ys,h1,rfl⟩:=hy;obtain ⟨e1,hg⟩:=PN h1
  cases rv with
  | agg _ a hs hq =>
   exact .agg _ a (by rw [hs,e1]) fun j c hj=>by
    obtain ⟨x,q1,q2⟩:=hg j c hj;exact iD gd.rel (hq j x q1) q2
 ·exact iD gd.rel rv hy
@[go_sem] theorem ZjN {o off len tot r} :Qi (.sl o off len tot::r)=none:=Zh rfl rfl
attribute [go_sem] Option.map_none
end Go.AM
namespace Go.Proofs.YtiigdaohjanidaaGreatDoor.K
open Go Go.AM
def Ed (be:List (Int×Int)) (a b:Nat):Prop:= ∃p∈be,p.1=(a:Int)/\p.2=(b:Int)
inductive Ch (be:List (Int×Int)):Nat->Nat->Prop where
 | one {a b} (h:Ed be a b):Ch be a b
 | more {a b c} (h:Ch be a b) (k:Ed be b c):Ch be a c
def Val (n:Nat) (be:List (Int×Int)):Prop:= ∀p∈be,0<=p.1/\p.1<n/\0<=p.2/\p.2<n
def Dr (out:List Nat) (p:Int×Int):List Nat:=out.set p.2.toNat (nth out p.2.toNat|||nth out p.1.toNat|||pw p.1.toNat)
def DP (out:List Nat) (be:List (Int×Int)):List Nat:=be.foldl Dr out
structure Snd (n:Nat) (be:List (Int×Int)) (out:List Nat):Prop where
 len:out.length=n
 lt: ∀b,b<n->nth out b<pw n
 snd: ∀a b,b<n->(nth out b).testBit a=true->Ch be a b
structure Clo (n:Nat) (be:List (Int×Int)) (out:List Nat):Prop extends Snd n be out where
 cmp: ∀a b,Ch be a b->(nth out b).testBit a=true
theorem DN (l:List Nat) (i j v:Nat) (h:j<l.length):nth (l.set i v) j=if i=j then v else nth l j:=by
 grind [nth]
theorem Snd.zero (n be):Snd n be (List.replicate n 0):=by
 refine ⟨Zb,fun b hb=> ?_,fun a b hb h=> ?_⟩
 ·grind [Ze,If]
 grind [Ze]
theorem JM (a b:Nat):(pw a).testBit b=decide (a=b):=by grind [pw]
theorem Snd.step {n be out} (hv:Val n be) (hs:Snd n be out) {p} (hp:p∈be):Snd n be (Dr out p):=by
 obtain ⟨h1,h2,h3,h4⟩:=hv p hp;refine ⟨by simp [Dr,hs.len],fun b hb=> ?_,fun a b hb h=> ?_⟩
 ·rw [Dr,DN _ _ _ _ (by rw [hs.len];exact hb)]
  split
  ·have e1:=hs.lt p.2.toNat Za;have e2:=hs.lt p.1.toNat Za
   have e3:pw p.1.toNat<pw n:=by
    have:=oZ p.1.toNat;have h5:pw (p.1.toNat+1)<=pw n:=Dg Za;omega
   exact Qt (Qt e1 e2) e3
  ·exact hs.lt b hb
 ·rw [Dr,DN _ _ _ _ (by rw [hs.len];exact hb)] at h
  split at h
  ·rename_i hb2;have hE:Ed be p.1.toNat b:=⟨p,hp,Za,Za⟩;simp only [K7,Wg] at h;rcases h with (h | h) | h
   ·exact hs.snd a b hb (by grind)
   ·exact (hs.snd a _ Za h).more hE
   ·rw [JM] at h;simp at h;subst h;exact .one hE
  ·exact hs.snd a b hb h
theorem Snd.rnd {n be out} (hv:Val n be) (hs:Snd n be out): ∀(l:List (Int×Int)),(∀p∈l,p∈be)->Snd n be (DP out l):=by
 intro l
 induction l generalizing out with
 | nil=>intro _;exact hs
 | cons p l ih=>intro h;exact ih (hs.step hv (h p Zb)) fun q hq=>h q (by simp [hq])
theorem sZ (x y:Nat):x<=x|||y:=Nat.left_le_or
def tot (l:List Nat):Nat:=l.foldr (· + ·) 0
theorem P7 : ∀(l:List Nat) (i v:Nat),i<l.length->tot (l.set i v)+nth l i=tot l+v
 | [],i,v,h=>by simp at h
 | x::l,0,v,h=>by simp [tot,nth];omega
 | x::l,i+1,v,h=>by
  have:=P7 l i v (by simpa using h);simp only [Xr,tot,List.foldr_cons,nth,List.getD_cons_succ] at this ⊢;omega
theorem jB : ∀(l:List Nat) (m:Nat),(∀i,i<l.length->nth l i<m)->tot l<=l.length*m
 | [],m,h=>by simp [tot]
 | x::l,m,h=>by
  have h0:=h 0 Zb
  have:=jB l m fun i hi=>by have:=h (i+1) (by grind);grind [nth]
  grind [tot,XP,nth]
theorem OZ (out:List Nat) (p:Int×Int) (h:p.2.toNat<out.length):tot out<=tot (Dr out p)/\(tot (Dr out p)=tot out->Dr out p=out):=by
 have e:=P7 out p.2.toNat (nth out p.2.toNat|||nth out p.1.toNat|||pw p.1.toNat) h;have h1:nth out p.2.toNat<=nth out p.2.toNat|||nth out p.1.toNat|||pw p.1.toNat:=K9 (sZ _ _) (sZ _ _);refine ⟨by rw [Dr];omega,fun he=> ?_⟩;rw [Dr] at he ⊢
 have:nth out p.2.toNat|||nth out p.1.toNat|||pw p.1.toNat=nth out p.2.toNat:=Za
 simp_all [Ze]
theorem N1 (out l m):DP out (l++m)=DP (DP out l) m:=by grind [DP]
theorem BW {n be} (hv:Val n be): ∀(l:List (Int×Int)) (out:List Nat),(∀p∈l,p∈be)->Snd n be out->tot out<=tot (DP out l)/\(tot (DP out l)=tot out->DP out l=out/\ ∀p∈l,Dr out p=out)
 | [],out,_,_=>⟨Xf _,fun _=>⟨rfl,fun p hp=>by simp at hp⟩⟩
 | p::l,out,hl,hs=>by
  obtain ⟨h1,h2,h3,h4⟩:=hv p (hl p Zb);have c:=OZ out p (by rw [hs.len];omega);have r:=BW hv l (Dr out p) (fun q hq=>hl q (by simp [hq])) (hs.step hv (hl p Zb));refine ⟨K9 c.1 r.1,fun e=> ?_⟩;have e:tot (DP (Dr out p) l)=tot out:=e
  have e1:tot (Dr out p)=tot out:=Za
  have e2:=c.2 e1
  have e3:tot (DP (Dr out p) l)=tot (Dr out p):=Za
  obtain ⟨e4,e5⟩:=r.2 e3;rw [e2] at e4 e5;refine ⟨by grind [DP],fun q hq=> ?_⟩
  grind
theorem Snd.clo {n be out} (hv:Val n be) (hs:Snd n be out) (h:tot (DP out be)=tot out):Clo n be out:=by
 have hc:=((BW hv be out (fun _ h=>h) hs).2 h).2
 have key: ∀p∈be,∀a,(a=p.1.toNat\/(nth out p.1.toNat).testBit a=true)->(nth out p.2.toNat).testBit a=true:=fun p hp a ha=>by
  obtain ⟨h1,h2,h3,h4⟩:=hv p hp;have e:=hc p hp
  have e2:nth (Dr out p) p.2.toNat=nth out p.2.toNat:=by rw [e]
  rw [Dr,DN _ _ _ _ (by rw [hs.len];omega)] at e2;simp only [if_true] at e2;rw [<- e2];simp only [K7,Wg,JM,Zl]
  grind
 refine ⟨hs,fun a b hab=> ?_⟩
 induction hab with
 | one h =>
  obtain ⟨p,hp,e1,e2⟩:=h;have:=key p hp p.1.toNat (.inl rfl)
  grind
 | more _ h ih =>
  obtain ⟨p,hp,e1,e2⟩:=h;have:=key p hp _ (.inr (by rw [e1];exact ih))
  grind
theorem Clo.uniq {n be out out'} (hv:Val n be) (h:Clo n be out) (h':Clo n be out'):out=out':=by
 apply VE (by rw [h.len,h'.len]);intro b h1 h2;rw [<- Ze h1,<- Ze h2];apply K2;intro a;rw [YO];rw [h.len] at h1;exact ⟨fun e=>h'.cmp a b (h.snd a b h1 e),fun e=>h.cmp a b (h'.snd a b h1 e)⟩
theorem Snd.bound {n be out} (hs:Snd n be out):tot out<=n*pw n:=by
 have:=jB out (pw n) fun i hi=>hs.lt i (by rw [<- hs.len];exact hi);rwa [hs.len] at this
theorem bB {n be} (hv:Val n be): ∀(k:Nat) (out:List Nat),Snd n be out->n*pw n-tot out<k-> ∃out',Clo n be out'
 | 0,out,_,h=>Za
 | k+1,out,hs,h=>by
  by_cases he:tot (DP out be)=tot out
  ·exact ⟨out,hs.clo hv he⟩
  ·have hp:=hs.rnd hv be fun _ h=>h;have:=hp.bound;have:=(BW hv be out (fun _ h=>h) hs).1;exact bB hv k (DP out be) hp Za
noncomputable def JO (n:Nat) (be:List (Int×Int)):List Nat:=open Classical in if h: ∃out,Clo n be out then h.choose else []
theorem El {n be} (hv:Val n be):Clo n be (JO n be):=by
 have h:=bB hv _ (List.replicate n 0) (Snd.zero n be) (Nat.lt_succ_self _);rw [JO,dif_pos h]
 grind
theorem bA {n be out} (hv:Val n be) (h:Clo n be out):JO n be=out:=(El hv).uniq hv h
theorem Un {n be} (hv:Val n be) (a b:Nat) (hb:b<n):(nth (JO n be) b).testBit a=true↔Ch be a b :=
 ⟨(El hv).snd a b hb,(El hv).cmp a b⟩
end Go.Proofs.YtiigdaohjanidaaGreatDoor.K
