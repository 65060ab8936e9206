/- Declarations that the closing texts need, part 4: joined by tools/slim.py. -/
import Derived.Test.YtiigdaohjanidaaGreatDoorY3
set_option linter.unusedVariables false
set_option linter.unusedSimpArgs false
universe u
namespace Go.AM
open Go.RowKit
structure Tk {α:Sort u} (a:α):Type where
def Zv {α:Sort u} (a:α) (_:Tk a):α:=a
@[go_sem] theorem Zc9 {α β:Type} {f:α->β} {t x} :Zv f t x=f x:=Zw rfl rfl
@[go_sem ↓] theorem Zda {α β:Type} {f:α->β->Prop} {t x y} :Zv f t x y=f x y:=Zw rfl rfl
@[go_sem ↓] theorem Zdb {α β γ:Type} {f:α->β->γ->Prop} {t x y z} :Zv f t x y z=f x y z:=Zw rfl rfl
def AJ (x:Option V) (K:V->Prop):Prop:=match x with | some v=>K v | none=>False
def As (x:Option (V×List Obj)) (K:V->List Obj->Prop):Prop:=match x with | some (v,H)=>K v H | none=>False
def bst (x:V) (K:Bool->Prop):Prop:=match x with | .p (.bool b)=>K b | _=>False
def hst (x:Option (List Obj)) (K:List Obj->Prop):Prop:=match x with | some H=>K H | none=>False
@[go_sem ↓, go_sem] theorem Zh2 {v K} :AJ (some v) K=K v:=Zw rfl rfl
@[go_sem ↓, go_sem] theorem ZhL {v H K} :As (some (v,H)) K=K v H:=Zw rfl rfl
@[go_sem ↓, go_sem] theorem ZgQ {H K} :hst (some H) K=K H:=Zw rfl rfl
@[congr] theorem Zdt {x x' K} (h:x=x'):AJ x K=AJ x' K:=by rw [h]
@[congr] theorem Zdm {x x' K} (h:x=x'):As x K=As x' K:=by rw [h]
@[congr] theorem Zde {x x' K} (h:x=x'):hst x K=hst x' K:=by rw [h]
def MO (fr:List V):List V:=fr
@[go_sem] theorem Zmb {fr} :MO fr=fr:=Zw rfl rfl
section code
variable {cuts : List Nat} {P : Program} {fr : List V} {H : List Obj} {Q : Exit -> List V -> List Obj -> Prop}
@[go_sem ↓] theorem ZcX : Q6 cuts P .skip fr H Q=Q .normal fr H:=Zw rfl rfl
@[go_sem ↓] theorem qV {id} {l:List Oper} :Q6 cuts P (.region id l.toArray false) fr H Q=Yz P (l.map (·.dst)) l (MO fr) H (Zv (Q .normal) ⟨⟩):=by rfl
@[go_sem ↓] theorem tV {id ops} :Q6 cuts P (.region id ops true) fr H Q=AWP P (.region id (Zv ops ⟨⟩) true) fr H (Zv Q ⟨⟩):=by rfl
@[go_sem ↓] theorem Zgg {x y} :Q6 [] P (.seq x y) fr H Q=Q6 [] P x fr H (QY (fun fr H=>Q6 [] P y fr H Q) Q):=by
 grind [Q6]
def gN (b:Bool) (A B:Prop):Prop:=if b then A else B
def I2 (cuts:List Nat):Option Nat->Bool
 | some i=>cuts.contains i
 | none=>false
@[go_sem ↓] theorem ZcW {k x y} :Q6 (k::cuts) P (.seq x y) fr H Q=gN (I2 (k::cuts) (Lr x)) (Zv (AWP P (.seq (Zv x ⟨⟩) (Zv y ⟨⟩)) fr H (Zv Q ⟨⟩)) ⟨⟩) (Zv (Q6 (k::cuts) P x fr H (QY (fun fr H=>Q6 (k::cuts) P y fr H Q) Q)) ⟨⟩):=by
 rfl
@[go_sem ↓, go_sem] theorem Zdx {A B:Prop} {t} :gN true (Zv A t) B=A:=by rfl
@[go_sem ↓, go_sem] theorem Zbz {A B:Prop} {t} :gN false A (Zv B t)=B:=by rfl
theorem N6 {b b' A B} (h:b=b'):gN b A B=gN b' A B:=by rw [h]
@[go_sem ↓] theorem vH {id ops d} :Lr (.region id ops d)=some id:=Zw rfl rfl
@[go_sem ↓] theorem Zkd {x y} :Lr (.seq x y)=Lr x:=Zw rfl rfl
@[go_sem ↓] theorem Zc8 {id c} :Lr (.block id c)=Lr c:=Zw rfl rfl
@[go_sem ↓] theorem ZgL {c x y} :Lr (.cond c x y)=none:=Zw rfl rfl
@[go_sem ↓] theorem ZgN {c} :Lr (.loop c)=none:=Zw rfl rfl
@[go_sem] theorem uR : I2 cuts none=false:=Zw rfl rfl
@[go_sem] theorem Zc2 {i} :I2 [] (some i)=false:=Zw rfl rfl
@[go_sem] theorem uQ {k i} :I2 (k::cuts) (some i)=(decide (i=k)||I2 cuts (some i)):=by rfl
@[go_sem ↓] theorem ZcS {c x y} :Q6 cuts P (.cond c x y) fr H Q=VD (ev fr c) (Zv (Q6 cuts P x fr H Q) ⟨⟩) (Zv (Q6 cuts P y fr H Q) ⟨⟩):=Zw rfl rfl
@[go_sem ↓] theorem tU {id c} :Q6 cuts P (.block id c) fr H Q=Q6 cuts P c fr H (Uq id Q):=Zw rfl rfl
@[go_sem ↓] theorem ZcT {id} :Q6 cuts P (.exit id) fr H Q=Q (.exit id) fr H:=Zw rfl rfl
@[go_sem ↓] theorem Zgf : Q6 cuts P .ret fr H Q=Q .ret fr H:=Zw rfl rfl
@[go_sem ↓] theorem ZcV {c} :Q6 cuts P (.loop c) fr H Q=AWP P (.loop (Zv c ⟨⟩)) fr H (Zv Q ⟨⟩):=Zw rfl rfl
@[go_sem ↓] theorem ZcU {c t} :Q6 cuts P (Zv c t) fr H Q=Q6 cuts P c fr H Q:=Zw rfl rfl
theorem Rm {c fr' H'} (h:fr=fr') (h2:H=H'):Q6 cuts P c fr H Q=Q6 cuts P c fr' H' Q:=by rw [h,h2]
theorem P0 {c fr' H'} (h:fr=fr') (h2:H=H'):AWP P c fr H Q=AWP P c fr' H' Q:=by rw [h,h2]
@[go_sem ↓] theorem oG {A:List V->List Obj->Prop} :QY A Q .normal fr H=A fr H:=Zw rfl rfl
@[go_sem ↓] theorem ZbH {A:List V->List Obj->Prop} {id} :QY A Q (.exit id) fr H=Q (.exit id) fr H:=Zw rfl rfl
@[go_sem ↓] theorem Zev {A:List V->List Obj->Prop} :QY A Q .ret fr H=Q .ret fr H:=Zw rfl rfl
@[go_sem ↓] theorem iX {id} :Uq id Q .normal fr H=Q .normal fr H:=Zw rfl rfl
@[go_sem ↓] theorem uA {id} :Uq id Q .ret fr H=Q .ret fr H:=Zw rfl rfl
@[go_sem ↓] theorem qY {id id'} :Uq id Q (.exit id') fr H=if id'=id then Q .normal fr H else Q (.exit id') fr H:=Zw rfl rfl
theorem Mw {A:List V->List Obj->Prop} {e fr' H'} (h:fr=fr') (h2:H=H'):QY A Q e fr H=QY A Q e fr' H':=by rw [h,h2]
theorem Hk {id e fr' H'} (h:fr=fr') (h2:H=H'):Uq id Q e fr H=Uq id Q e fr' H':=by rw [h,h2]
@[go_sem ↓] theorem rX {rs} {Q:V->List Obj->Prop} :JR P rs Q .normal fr H=As ((Yt P fr H rs).map fun xs=>(Vg xs,H)) (Zv Q ⟨⟩):=by
 simp only [JR,Zv];grind [As]
@[go_sem ↓] theorem Zh7 {rs} {Q:V->List Obj->Prop} :JR P rs Q .ret fr H=As ((Yt P fr H rs).map fun xs=>(Vg xs,H)) (Zv Q ⟨⟩):=by
 simp only [JR,Zv];grind [As]
theorem N0 {rs e fr' H'} {Q:V->List Obj->Prop} (h:fr=fr') (h2:H=H'):JR P rs Q e fr H=JR P rs Q e fr' H':=by rw [h,h2]
@[go_sem] theorem Zbv : Yt P fr H []=some []:=Zw rfl rfl
@[go_sem] theorem Zbw {t l} :Yt P fr H (.tmp t::l)=(Yt P fr H l).map (gt fr t:: ·):=by
 simp only [Yt,SC];cases Yt P fr H l<;>rfl
@[go_sem] theorem rV {a t l} :Yt P fr H (.cell a t::l)=(Qy P H t (gt fr a)).bind fun x=>(Yt P fr H l).map (x:: ·):=by
 simp only [Yt,SC];cases Qy P H t (gt fr a)<;>cases Yt P fr H l<;>rfl
@[go_sem] theorem Zbx {x} :Vg [x]=x:=Zw rfl rfl
@[go_sem] theorem rW : Vg []= .tup []:=Zw rfl rfl
@[go_sem] theorem NZ {x y l} :Vg (x::y::l)= .tup (x::y::l):=Zw rfl rfl
end code
attribute [congr] N6 Rm P0 Mw Hk N0
@[go_sem] theorem Zkb {x:V} {l} :gt (x::l) 0=x:=Zw rfl rfl
@[go_sem] theorem Zka {x:V} {l n} :gt (x::l) (n+1)=gt l n:=Zw rfl rfl
@[go_sem] theorem Zl8 {n} :gt [] n= .junk:=Zw rfl rfl
@[go_sem] theorem Zkz {x v:V} {l} :pt (x::l) 0 v=v::l:=Zw rfl rfl
@[go_sem] theorem Zky {x v:V} {l n} :pt (x::l) (n+1) v=x::pt l n v:=Zw rfl rfl
@[go_sem] theorem Zh4 {fr d v} :Y7 fr (some d) v=pt fr d v:=Zw rfl rfl
@[go_sem] theorem Zh3 {fr v} :Y7 fr none v=fr:=Zw rfl rfl
@[go_sem] theorem ZhQ {x:Obj} {l} :oat (x::l) 0=x:=Zw rfl rfl
@[go_sem] theorem ZhP {x:Obj} {l n} :oat (x::l) (n+1)=oat l n:=Zw rfl rfl
@[go_sem] theorem ZhX {x v:Obj} {l} :EB (x::l) 0 v=v::l:=Zw rfl rfl
@[go_sem] theorem ZhW {x v:Obj} {l n} :EB (x::l) (n+1) v=x::EB l n v:=Zw rfl rfl
@[go_sem] theorem ZjZ {fr t} :evx fr (.tmp t)=gt fr t:=Zw rfl rfl
@[go_sem] theorem uY {fr g} :evx fr (.global g)=cG g:=Zw rfl rfl
@[go_sem] theorem ZlW {fr t} :ev fr (.tmp t)=gt fr t:=Zw rfl rfl
@[go_sem] theorem ZjW {fr f} :ev fr (.func f)= .fn (.func f) [] []:=Zw rfl rfl
@[go_sem] theorem ZlU {fr k n} :ev fr (.const (.int k n))= .p (.int k n):=Zw rfl rfl
@[go_sem] theorem ZjV {fr b} :ev fr (.const (.bool b))= .p (.bool b):=Zw rfl rfl
@[go_sem] theorem ZlV {fr s} :ev fr (.const (.string s))= .p (.str s.data.toList):=Zw rfl rfl
@[go_sem] theorem ZjY {fr} :ev fr (.const (.slice none 0 0))= .p (.list true []):=Zw rfl rfl
@[go_sem] theorem ZjX {fr} :ev fr (.const (.pointer none))= .p .nilp:=Zw rfl rfl
@[go_sem] theorem ZlT {fr l} :ev fr (.const (.agg (List.toArray l)))=match uT l with | some xs=> .p (.agg xs) | none=> .junk:=Zw rfl rfl
@[go_sem] theorem ZgF {fr d} {l:List (Option Nat)} :B5 fr (some d::l) 0=gt fr d:=by simp [B5]
@[go_sem] theorem ZgE {fr o n} {l:List (Option Nat)} :B5 fr (o::l) (n+1)=B5 fr l n:=by simp [B5]
section ops
variable {P : Program} {fr : List V} {H : List Obj} {ds : List (Option Nat)} {K : List V -> List Obj -> Prop} {r : List Oper} {d : Option Nat} {t : TypeId} {ps : String} {af : Array Edge} {g : Option (Nat × Bool)} {k : V -> List Obj -> Prop}
theorem MY {l fr' H'} (h:fr=fr') (h2:H=H'):Yz P ds l fr H K=Yz P ds l fr' H' K:=by rw [h,h2]
theorem II {o fr' H'} (h:fr=fr') (h2:H=H'):Zx P o fr H k=Zx P o fr' H' k:=by rw [h,h2]
@[go_sem ↓] theorem Zf4 : Yz P ds [] fr H K=K fr H:=Zw rfl rfl
@[go_sem] theorem ZcC {op} :Yz P ds (⟨d,op,t,ps,af,none⟩::r) fr H K=Zx P ⟨d,op,t,ps,af,none⟩ fr H (Zv (fun x H'=>Yz P ds r (Y7 fr d x) H' K) ⟨⟩):=Zw rfl rfl
@[go_sem] theorem sW {op j b} :Yz P ds (⟨d,op,t,ps,af,some (j,b)⟩::r) fr H K=Xp (B5 fr ds j) b (Zv (Zx P ⟨d,op,t,ps,af,none⟩ fr H (Zv (fun x H'=>Yz P ds r (Y7 fr d x) H' K) ⟨⟩)) ⟨⟩) (Zv (Yz P ds r (Y7 fr d (.tup [])) H K) ⟨⟩):=by
 rfl
theorem Xx {op:Op} (h:YB op=none) (h2:Wj P op fr H=none):Zx P ⟨d,op,t,ps,af,g⟩ fr H k=AJ (Z7 P op fr H) fun x=>k x H:=by
 simp only [Zx,h,G9,h2]
 all_goals (cases Z7 P op fr H<;>rfl)
theorem Rk {op:Op} (h:YB op=none) (h2:Z7 P op fr H=none):Zx P ⟨d,op,t,ps,af,g⟩ fr H k=As (Wj P op fr H) k:=by
 grind [Zx,G9,As]
@[go_sem ↓] theorem tO {x} :Zx P ⟨d,.move x,t,ps,af,g⟩ fr H k=k (ev fr x) H:=by rfl
@[go_sem ↓] theorem kJ {x} :Zx P ⟨d,.assign x,t,ps,af,g⟩ fr H k=k (ev fr x) H:=by rfl
def vif (b:Bool) (x y:V):V:=if b then x else y
@[go_sem] theorem Zja {x y} :vif true x y=x:=Zw rfl rfl
@[go_sem] theorem Zew {x y} :vif false x y=y:=Zw rfl rfl
@[go_sem] theorem Zi9 {b x y} :vif b (.p (.bool x)) (.p (.bool y))= .p (.bool (if b then x else y)):=by cases b<;>rfl
@[go_sem] theorem Zf9 {b} :tE (.p (.bool b))=some b:=Zw rfl rfl
@[go_sem ↓] theorem tQ {c x y} :Zx P ⟨d,.pick c x y,t,ps,af,g⟩ fr H k=AJ ((tE (ev fr c)).map fun b=>vif b (ev fr x) (ev fr y)) (Zv (fun v=>k v H) ⟨⟩):=by
 rw [Xx rfl rfl];simp only [Z7,XW]
 cases tE (ev fr c)<;>rfl
@[go_sem ↓] theorem tN {u x} :Zx P ⟨d,.load u x,t,ps,af,g⟩ fr H k=AJ (Qy P H u (ev fr x)) (Zv (fun v=>k v H) ⟨⟩):=by rw [Xx rfl rfl];rfl
@[go_sem ↓] theorem TY {x} :Zx P ⟨d,.nilCheck x,t,ps,af,g⟩ fr H k=AJ (if Y1 H (ev fr x)||cT (ev fr x) then some (ev fr x) else none) (Zv (fun v=>k v H) ⟨⟩):=by rw [Xx rfl rfl];rfl
@[go_sem ↓] theorem ZcL {op u x y u2} :Zx P ⟨d,.binOp op u x y u2,t,ps,af,g⟩ fr H k=AJ ((X1 P op u (ev fr x) (ev fr y)).map .p) (Zv (fun v=>k v H) ⟨⟩):=by rw [Xx rfl rfl];rfl
@[go_sem ↓] theorem Zgd {op u x} :Zx P ⟨d,.unOp op u x,t,ps,af,g⟩ fr H k=AJ ((aun op (ev fr x)).map .p) (Zv (fun v=>k v H) ⟨⟩):=by rw [Xx rfl rfl];rfl
def dW (x y:Option PV):Option PV:=match x with | some z=>some z | none=>y
@[go_sem] theorem Zbd {z y} :dW (some z) y=some z:=Zw rfl rfl
@[go_sem] theorem Zbc {y} :dW none y=y:=Zw rfl rfl
@[go_sem ↓] theorem tM {s u x} :Zx P ⟨d,.convert s u x,t,ps,af,g⟩ fr H k=AJ ((dW (B9 P H s u (ev fr x)) (It P s u (ev fr x))).map .p) (Zv (fun v=>k v H) ⟨⟩):=by
 rw [Xx rfl rfl];simp only [Z7,XW]
 cases B9 P H s u (ev fr x)<;>rfl
@[go_sem ↓] theorem TX {f cs es} :Zx P ⟨d,.makeFunc f (List.toArray cs) (List.toArray es),t,ps,af,g⟩ fr H k=k (.fn f (cs.map (ev fr)) (es.map (ev fr))) H:=by rfl
@[go_sem ↓] theorem qT {u x lo hi mx} :Zx P ⟨d,.slice u x lo hi mx,t,ps,af,g⟩ fr H k=AJ (WM P H u fr (ev fr x) lo hi mx) (Zv (fun v=>k v H) ⟨⟩):=by rw [Xx rfl rfl];rfl
@[go_sem ↓] theorem Te {s x f} :Zx P ⟨d,.fieldAddr s x f,t,ps,af,g⟩ fr H k=AJ (Q2 P H s f (ev fr x)) (Zv (fun v=>k v H) ⟨⟩):=by rw [Xx rfl rfl];rfl
@[go_sem ↓] theorem Tf {u x i} :Zx P ⟨d,.indexAddr u x i,t,ps,af,g⟩ fr H k=AJ (Qc P H u (evx fr x) (ev fr i)) (Zv (fun v=>k v H) ⟨⟩):=by rw [Xx rfl rfl];rfl
@[go_sem ↓] theorem qS {u x i} :Zx P ⟨d,.index u x i,t,ps,af,g⟩ fr H k=AJ (Iv P u (ev fr x) (ev fr i)) (Zv (fun v=>k v H) ⟨⟩):=by rw [Xx rfl rfl];rfl
def axt (x:V) (i:Nat):Option V:=match x with | .tup vs=>vs[i]? | _=>none
@[go_sem] theorem ZjF {vs i} :axt (.tup vs) i=vs[i]? :=Zw rfl rfl
@[go_sem ↓] theorem iV {x i} :Zx P ⟨d,.extract x i,t,ps,af,g⟩ fr H k=AJ (axt (ev fr x) i) (Zv (fun v=>k v H) ⟨⟩):=by
 rw [Xx rfl rfl]
 rfl
@[go_sem ↓] theorem qR {u l} :Zx P ⟨d,.build u (List.toArray l),t,ps,af,g⟩ fr H k=AJ (DJ P H u (l.map fun x=>(x.1,ev fr x.2))) (Zv (fun v=>k v H) ⟨⟩):=by rw [Xx rfl rfl];rfl
@[go_sem ↓] theorem ZcN {x u} :Zx P ⟨d,.call ⟨.builtin .len,#[x],#[u]⟩,t,ps,af,g⟩ fr H k=AJ ((TL P H u (ev fr x)).map .p) (Zv (fun v=>k v H) ⟨⟩):=by rw [Xx rfl rfl];rfl
@[go_sem ↓] theorem ZcO {x y us} :Zx P ⟨d,.call ⟨.builtin .max,#[x,y],us⟩,t,ps,af,g⟩ fr H k=AJ ((G7 false [ev fr x,ev fr y]).map .p) (Zv (fun v=>k v H) ⟨⟩):=by
 rw [Xx rfl rfl];rfl
@[go_sem ↓] theorem qQ {u} :Zx P ⟨d,.alloc u,t,ps,af,g⟩ fr H k=As ((Xf P u).map fun zs=>(.ptr H.length 0,H++ [.cells (zs.map .p)])) (Zv k ⟨⟩):=by rfl
@[go_sem ↓] theorem ZcM {u x} :Zx P ⟨d,.box u x,t,ps,af,g⟩ fr H k=As ((vc H (ev fr x)).map fun cs=>(.ptr H.length 0,H++ [.cells cs])) (Zv k ⟨⟩):=by rfl
def tS (H:List Obj) (n:Option Nat) (a:V) (cs:Option (List V)):Option (List Obj):=n.bind fun n=>cs.bind fun cs=>Ay H n a cs
@[go_sem] theorem ZcQ {n a cs} :tS H (some n) a (some cs)=Ay H n a cs:=Zw rfl rfl
@[go_sem ↓] theorem qU {u x y} :Zx P ⟨d,.store u x y,t,ps,af,g⟩ fr H k=hst (tS H (Yw P u) (ev fr x) (vc H (ev fr y))) (Zv (k .junk) ⟨⟩):=by
 rw [Rk rfl rfl];simp only [Wj,tS]
 cases Yw P u<;>cases vc H (ev fr y)<;>simp [hst,As,Zv]
 grind
@[go_sem ↓] theorem Rj {u n l} :Zx P ⟨d,.buildSlice u n (List.toArray l),t,ps,af,g⟩ fr H k=As (Wj P (.buildSlice u n (List.toArray l)) fr H) (Zv k ⟨⟩):=by rfl
@[go_sem ↓] theorem iW {u} :Zx P ⟨d,.makeMap u none,t,ps,af,g⟩ fr H k=k (.mp H.length) (H++ [.map []]):=by rfl
@[go_sem ↓] theorem kK {u x y ok} :Zx P ⟨d,.lookup u x y ok,t,ps,af,g⟩ fr H k=As (A0 P H u (ev fr x) (ev fr y) ok) (Zv k ⟨⟩):=by rfl
@[go_sem ↓] theorem tP {u x y z} :Zx P ⟨d,.mapUpdate u x y z,t,ps,af,g⟩ fr H k=As (CO P H u (ev fr x) (ev fr y) (ev fr z)) (Zv k ⟨⟩):=by rfl
@[go_sem ↓] theorem Tg {u x y} :Zx P ⟨d,.makeSlice u x y,t,ps,af,g⟩ fr H k=As (Wj P (.makeSlice u x y) fr H) (Zv k ⟨⟩):=by rfl
@[go_sem ↓] theorem kI {x y u u2} :Zx P ⟨d,.call ⟨.builtin .append,#[x,y],#[u,u2]⟩,t,ps,af,g⟩ fr H k=As (Wy P H u u2 (ev fr x) (ev fr y)) (Zv k ⟨⟩):=by rfl
@[go_sem ↓] theorem tL {f azs ts} :Zx P ⟨d,.call ⟨.value f,List.toArray azs,ts⟩,t,ps,af,g⟩ fr H k=An P (ev fr f) (azs.map (ev fr)) H (Zv k ⟨⟩):=Zw rfl rfl
@[go_sem ↓] theorem ZfT {f fs cs azs} :An P (.fn (.func f) fs cs) azs H k=ACalls P f (fs++azs++cs) H k:=Zw rfl rfl
@[go_sem ↓] theorem Zcc {f azs} :An P (.p (.fn f)) azs H k=ACalls P f azs H k:=Zw rfl rfl
theorem Ir {f f' azs as'} (h:f=f') (h2:azs=as'):An P f azs H k=An P f' as' H k:=by rw [h,h2]
theorem GY {f azs as' H'} (h2:azs=as') (h3:H=H'):ACalls P f azs H k=ACalls P f as' H' k:=by rw [h2,h3]
theorem Is {x x' A B} (h:x=x'):VD x A B=VD x' A B:=by rw [h]
theorem G4 {x x' b A B} (h:x=x'):Xp x b A B=Xp x' b A B:=by rw [h]
@[go_sem ↓, go_sem] theorem sK {A:Prop} {t B'} :VD (.p (.bool true)) (Zv A t) B'=A:=by simp [VD,Zv]
@[go_sem ↓, go_sem] theorem qE {B:Prop} {t B'} :VD (.p (.bool false)) B' (Zv B t)=B:=by simp [VD,Zv]
@[go_sem ↓, go_sem] theorem Zco {A:Prop} {t B} :Xp (.p (.bool true)) true (Zv A t) B=A:=by simp [Xp,Zv]
@[go_sem ↓, go_sem] theorem Zcn {B:Prop} {t A} :Xp (.p (.bool true)) false A (Zv B t)=B:=by simp [Xp,Zv]
@[go_sem ↓, go_sem] theorem Zcm {B:Prop} {t A} :Xp (.p (.bool false)) true A (Zv B t)=B:=by simp [Xp,Zv]
@[go_sem ↓, go_sem] theorem Zcl {A:Prop} {t B} :Xp (.p (.bool false)) false (Zv A t) B=A:=by simp [Xp,Zv]
@[go_sem ↓, go_sem] theorem qG {b} {B:Prop} {t A} :Xp (.tup []) b A (Zv B t)=B:=by rfl
theorem UT {c:Bool} {A B:Prop} {t t'} (h1:c=true->A) (h2:c=false->B):VD (.p (.bool c)) (Zv A t) (Zv B t'):=⟨h1,h2⟩
theorem VF {c:Bool} {A B:Prop} {t t'} (h1:c=true->A) (h2:c=false->B):Xp (.p (.bool c)) true (Zv A t) (Zv B t'):=⟨h1,fun h=>h2 (by simpa using h)⟩
theorem Um {c:Bool} {A B:Prop} {t t'} (h1:c=true->B) (h2:c=false->A):Xp (.p (.bool c)) false (Zv A t) (Zv B t'):=⟨h2,fun h=>h1 (by simpa using h)⟩
theorem Yv {P Q:Prop} (h:Q) (e:Q->P:=by intro h;simp (disch:=omega) only [go_sem,seval];exact h):P:=e h
class Dc (c:Bool) (p q:outParam Prop):Prop where
 t:c=true->p
 f:c=false->q
instance dcD {p : Prop} [Decidable p] : Dc (decide p) p (¬p) := ⟨KP, of_decide_eq_false⟩
instance (priority := low) dcB {c : Bool} : Dc c (c = true) (c = false) := ⟨id, id⟩
theorem cD {c:Bool} {A B p q:Prop} {t t'} [d:Dc c p q] (h1:p->A) (h2:q->B):VD (.p (.bool c)) (Zv A t) (Zv B t'):=UT (fun h=>h1 (d.t h)) (fun h=>h2 (d.f h))
theorem gT {c:Bool} {A B p q:Prop} {t t'} [d:Dc c p q] (h1:p->A) (h2:q->B):Xp (.p (.bool c)) true (Zv A t) (Zv B t'):=VF (fun h=>h1 (d.t h)) (fun h=>h2 (d.f h))
theorem gF {c:Bool} {A B p q:Prop} {t t'} [d:Dc c p q] (h1:p->B) (h2:q->A):Xp (.p (.bool c)) false (Zv A t) (Zv B t'):=Um (fun h=>h1 (d.t h)) (fun h=>h2 (d.f h))
@[go_sem] theorem Zku {p:Prop} [Decidable p]:(!decide p)=decide (¬p):=Zb
end ops
attribute [congr] MY II Ir GY Is G4
section vals
variable {P : Program} {H : List Obj} {k : IntKind} {t u : TypeId}
@[go_sem] theorem ZfI {a b} :X1 P .add t (.p (.int k a)) (.p (.int k b))=some (.int k (k.wrap (a+b))):=by simp [X1,Ql]
@[go_sem] theorem ZfS {a b} :X1 P .sub t (.p (.int k a)) (.p (.int k b))=some (.int k (k.wrap (a-b))):=by simp [X1,Ql]
@[go_sem] theorem Tz {a b} :X1 P .mul t (.p (.int k a)) (.p (.int k b))=some (.int k (k.wrap (a*b))):=by simp [X1,Ql]
@[go_sem] theorem TB {a b} (h:b≠0):X1 P .quo t (.p (.int k a)) (.p (.int k b))=some (.int k (k.wrap (a.tdiv b))):=by simp [X1,Ql,h]
@[go_sem] theorem ZfQ {a b} (h:b≠0):X1 P .rem t (.p (.int k a)) (.p (.int k b))=some (.int k (a.tmod b)):=by simp [X1,Ql,h]
@[go_sem] theorem Ty {a b} :X1 P .and t (.p (.int k a)) (.p (.int k b))=some (.int k (k.wrap ((BitVec.ofInt k.bits a&&&BitVec.ofInt k.bits b).toNat:Int))):=by simp [X1,Ql]
@[go_sem] theorem Om {a b} :X1 P .or t (.p (.int k a)) (.p (.int k b))=some (.int k (k.wrap ((BitVec.ofInt k.bits a|||BitVec.ofInt k.bits b).toNat:Int))):=by simp [X1,Ql]
@[go_sem] theorem qC {a b} :X1 P .andNot t (.p (.int k a)) (.p (.int k b))=some (.int k (k.wrap ((BitVec.ofInt k.bits a&&& ~~~(BitVec.ofInt k.bits b)).toNat:Int))):=by simp [X1,Ql]
@[go_sem] theorem ZfK {a b} :X1 P .eql t (.p (.int k a)) (.p (.int k b))=some (.bool (decide (a=b))):=by simp [X1,Ql]
@[go_sem] theorem ZfP {a b} :X1 P .neq t (.p (.int k a)) (.p (.int k b))=some (.bool (decide (¬a=b))):=by simp [X1,Ql]
@[go_sem] theorem ZfO {a b} :X1 P .lss t (.p (.int k a)) (.p (.int k b))=some (.bool (decide (a<b))):=by simp [X1,Ql]
@[go_sem] theorem ZfN {a b} :X1 P .leq t (.p (.int k a)) (.p (.int k b))=some (.bool (decide (a<=b))):=by simp [X1,Ql]
@[go_sem] theorem ZfM {a b} :X1 P .gtr t (.p (.int k a)) (.p (.int k b))=some (.bool (decide (b<a))):=by simp [X1,Ql]
@[go_sem] theorem ZfL {a b} :X1 P .geq t (.p (.int k a)) (.p (.int k b))=some (.bool (decide (b<=a))):=by simp [X1,Ql]
@[go_sem] theorem TC {a b k'} (h:0<=b):X1 P .shl t (.p (.int k a)) (.p (.int k' b))=some (.int k (k.wrap (a*2^(min b.toNat k.bits)))):=by grind [X1,Ql]
@[go_sem] theorem TD {a b k'} (h:0<=b):X1 P .shr t (.p (.int k a)) (.p (.int k' b))=some (.int k (a.fdiv (2^(min b.toNat k.bits)))):=by grind [X1,Ql]
@[go_sem] theorem ZfR {op a b} :X1 P op t (.p (.str a)) (.p (.str b))=H9 op a b:=Zw rfl rfl
@[go_sem] theorem Zh9 {a b} :H9 .eql a b=some (.bool (decide (a=b))):=Zw rfl rfl
@[go_sem] theorem Zia {a b} :H9 .neq a b=some (.bool (decide (¬a=b))):=by simp [H9]
@[go_sem] theorem gK {a b} (h:a.length+b.length<=9223372036854775807):H9 .add a b=some (.str (a++b)):=by simp [H9,h]
def tW (op:BinOp) (u:Option TypeDesc) (a b:Bool):Option PV:=match op,u with
  | .eql,some .bool=>some (.bool (a==b))
  | .neq,some .bool=>some (.bool (!(a==b)))
  | _,_=>none
end vals
attribute [irreducible] AJ As hst bst
end Go.AM
namespace Go.AM
open Go.RowKit
section vals
variable {P : Program} {H : List Obj} {k : IntKind} {t u : TypeId}
@[go_sem] theorem Zb7 {op a b} :X1 P op t (.p (.bool a)) (.p (.bool b))=tW op (P.underlying t) a b:=Zw rfl rfl
@[go_sem] theorem Zgh {a b} :tW .eql (some .bool) a b=some (.bool (a==b)):=Zw rfl rfl
@[go_sem] theorem Zgi {a b} :tW .neq (some .bool) a b=some (.bool (!(a==b))):=Zw rfl rfl
def vD (g:Bool) (op:BinOp) (r:Option Bool):Option PV:=if g then none else match op with
 | .eql=>r.map .bool
 | .neq=>r.map fun r=> .bool (!r)
 | _=>none
@[go_sem] theorem ZfJ {op a b} :X1 P op t (.p (.agg a)) (.p (.agg b))=vD (P.eqGuardType P.depth t) op (Y9 P 9 t (.agg a) (.agg b)):=Zw rfl rfl
@[go_sem] theorem ZgG {b} :vD false .eql (some b)=some (.bool b):=Zw rfl rfl
@[go_sem] theorem ZgH {b} :vD false .neq (some b)=some (.bool (!b)):=Zw rfl rfl
def AU (P:Program) (d:Nat) (t:TypeId) (D:Option TypeDesc) (x y:PV):Option Bool:=match D,x,y with
  | some .bool,.bool a,.bool b=>some (a==b)
  | some (.int _),.int k a,.int k' b=>if k=k' then some (decide (a=b)) else none
  | some .string,.str a,.str b=>some (decide (a=b))
  | some (.struct fs),.agg a,.agg b=>if P.stoodInHeld t then none else AV (Y9 P d) P fs.toList a b
  | some (.array n e),.agg a,.agg b=>match Yw P e with | some m=>Ca (Y9 P d e) P e m n 0 a b | none=>none
  | _,_,_=>none
@[go_sem] theorem Zci {d x y} :Y9 P (d+1) t x y=AU P d t (P.underlying t) x y:=Zw rfl rfl
@[go_sem] theorem Zch {d a b} :AU P d t (some .bool) (.bool a) (.bool b)=some (a==b):=Zw rfl rfl
@[go_sem] theorem ZfV {d k0 a b} :AU P d t (some (.int k0)) (.int k a) (.int k b)=some (decide (a=b)):=by simp [AU]
theorem VE {d fs a b} (h:P.stoodInHeld t=false):AU P d t (some (.struct fs)) (.agg a) (.agg b)=AV (Y9 P d) P fs.toList a b:=by simp [AU,h]
theorem MT {d n e m a b} (h:Yw P e=some m):AU P d t (some (.array n e)) (.agg a) (.agg b)=Ca (Y9 P d e) P e m n 0 a b:=by simp [AU,h]
def JO (x y:Option Bool):Option Bool:=x.bind fun p=>y.map fun q=>p&&q
@[go_sem] theorem Zdq {p q} :JO (some p) (some q)=some (p&&q):=Zw rfl rfl
def eqP (f:PV->PV->Option Bool) (x y:Option PV):Option Bool:=x.bind fun x=>y.bind fun y=>f x y
@[go_sem] theorem Zgz {f x y} :eqP f (some x) (some y)=f x y:=Zw rfl rfl
@[go_sem] theorem JU {f a b} :AV f P [] a b=some true:=Zw rfl rfl
@[go_sem] theorem Qx {f fi r a b} : AV f P (fi :: r) a b = if fi.name = "_" then AV f P r a b else JO (eqP (f fi.type) (apart P fi.type a fi.offset) (apart P fi.type b fi.offset)) (AV f P r a b) := by
 simp only [AV]
 split
 ·rfl
 ·cases apart P fi.type a fi.offset<;>cases apart P fi.type b fi.offset<;>simp [eqP,JO]
  rename_i x y
  cases f fi.type x y<;>cases AV f P r a b<;>rfl
@[go_sem] theorem Zcg {f e n i a b} :Ca f P e n 0 i a b=some true:=Zw rfl rfl
@[go_sem] theorem Zcf {f e n i m a b} :Ca f P e n (m+1) i a b=JO (eqP f (apart P e a (i*n)) (apart P e b (i*n))) (Ca f P e n m (i+1) a b):=by
 simp only [Ca]
 cases apart P e a (i*n)<;>cases apart P e b (i*n)<;>simp [eqP,JO]
 rename_i x y
 cases f x y<;>cases Ca f P e n m (i+1) a b<;>rfl
def Zf6 (g:Option Bool) (s:Option Nat) (cs:List PV) (off:Nat):Option PV:=match g,s with
 | some true,some n=>if off+n<=cs.length then some (.agg ((cs.drop off).take n)) else none
 | some false,_=>cs[off]?
 | _,_=>none
@[go_sem] theorem Zf5 {cs off} :apart P t cs off=Zf6 (Xw P t) (Yw P t) cs off:=Zw rfl rfl
@[go_sem] theorem Zf7 {s cs off} :Zf6 (some false) s cs off=cs[off]? :=Zw rfl rfl
def MV (g:Option Bool) (s:Option Nat) (H:List Obj) (x:V):Option V:=match g,s with
 | some true,some n=>(VV H x n).map mkA
 | some false,_=>match VV H x 1 with
  | some (c::_)=>some c
  | _=>none
 | _,_=>none
def hdO (x:Option (List V)):Option V:=match x with | some (c::_)=>some c | _=>none
@[go_sem] theorem ZgK {c l} :hdO (some (c::l))=some c:=Zw rfl rfl
@[go_sem] theorem Zf0 {x} :Qy P H t x=MV (Xw P t) (Yw P t) H x:=Zw rfl rfl
@[go_sem] theorem sV {s x} :MV (some false) s H x=hdO (VV H x 1):=by rfl
@[go_sem] theorem sU {n x} :MV (some true) (some n) H x=(VV H x n).map mkA:=Zw rfl rfl
@[go_sem] theorem Zce {x j n} :VV H (.lp x j) n=if j+n<=x.cells.length then some (((x.cells.drop j).take n).map .p) else none:=Zw rfl rfl
def eZ (ob:Obj) (off n:Nat):Option (List V):=match ob with | .cells cs=>if off+n<=cs.length then some ((cs.drop off).take n) else none | _=>none
@[go_sem] theorem sJ {o off n} :VV H (.ptr o off) n=eZ (oat H o) off n:=Zw rfl rfl
@[go_sem] theorem nA {cs off n} :eZ (.cells cs) off n=if off+n<=cs.length then some ((cs.drop off).take n) else none:=Zw rfl rfl
def bD (ob:Obj) (i j tot n:Nat):Option (List V):=match ob with
 | .elems _ xs=>if xs.length=tot/\i<xs.length/\j+n<=(UW xs i).cells.length then some ((((UW xs i).cells.drop j).take n).map .p) else none
 | _=>none
@[go_sem] theorem Zcd {o i j tot n} :VV H (.ep o i j tot) n=bD (oat H o) i j tot n:=Zw rfl rfl
@[go_sem] theorem lK {S xs i j tot n} :bD (.elems S xs) i j tot n=if xs.length=tot/\i<xs.length/\j+n<=(UW xs i).cells.length then some ((((UW xs i).cells.drop j).take n).map .p) else none:=Zw rfl rfl
@[go_sem] theorem ZcY {cs} :(PV.agg cs).cells=cs:=Zw rfl rfl
@[go_sem] theorem Zc0 {n} :(PV.int k n).cells= [.int k n]:=Zw rfl rfl
@[go_sem] theorem uG {b} :(PV.bool b).cells= [.bool b]:=Zw rfl rfl
@[go_sem] theorem Zc1 {s} :(PV.str s).cells= [.str s]:=Zw rfl rfl
@[go_sem] theorem uH {c xs} :(PV.list c xs).cells= [.list c xs]:=Zw rfl rfl
@[go_sem] theorem Zkw {n} :(PV.int k n).one=true:=Zw rfl rfl
@[go_sem] theorem ZhU {b} :(PV.bool b).one=true:=Zw rfl rfl
@[go_sem] theorem Zkx {s} :(PV.str s).one=true:=Zw rfl rfl
@[go_sem] theorem ZhV {c xs} :(PV.list c xs).one=true:=Zw rfl rfl
@[go_sem] theorem Zmp {cs} :mkA cs=match Qd cs with | some ps=> .p (.agg ps) | none=> .agg cs:=Zw rfl rfl
@[go_sem] theorem ZfZ : Qd []=some []:=Zw rfl rfl
@[go_sem] theorem Zcu {x r} :Qd (.p x::r)=(Qd r).map (x:: ·):=by rfl
def Dj (n:Option Nat) (a:Bool) (x:V):Option V:=match n with | some n=>if a then some (A1 n x) else none | none=>none
@[go_sem] theorem Zcj {s f x} :Q2 P H s f x=Dj (ZM P s f) (Y1 H x) x:=Zw rfl rfl
@[go_sem] theorem jH {n x} :Dj (some n) true x=some (A1 n x):=Zw rfl rfl
@[go_sem] theorem Zf3 {n x j} :A1 n (.lp x j)= .lp x (j+n):=Zw rfl rfl
@[go_sem] theorem Zcz {n o off} :A1 n (.ptr o off)= .ptr o (off+n):=Zw rfl rfl
@[go_sem] theorem Zf2 {n o i j tot} :A1 n (.ep o i j tot)= .ep o i (j+n) tot:=Zw rfl rfl
def O7 (ob:Obj):Bool:=match ob with | .cells _=>true | _=>false
@[go_sem] theorem jB {cs} :O7 (.cells cs)=true:=Zw rfl rfl
def O8 (ob:Obj) (tot:Nat):Bool:=match ob with | .elems _ xs=>decide (xs.length=tot) | _=>false
@[go_sem] theorem jC {S xs tot} :O8 (.elems S xs) tot=decide (xs.length=tot):=Zw rfl rfl
def Pb (ob:Obj) (tot:Nat):Bool:=match ob with | .elems _ xs=>decide (xs.length=tot) | .cells _=>true | _=>false
@[go_sem] theorem rJ {S xs tot} :Pb (.elems S xs) tot=decide (xs.length=tot):=Zw rfl rfl
@[go_sem] theorem rI {cs tot} :Pb (.cells cs) tot=true:=Zw rfl rfl
@[go_sem] theorem ZfY {x j} :Y1 H (.lp x j)=true:=Zw rfl rfl
@[go_sem] theorem sR {o off} :Y1 H (.ptr o off)=O7 (oat H o):=Zw rfl rfl
@[go_sem] theorem ZfX {o i j tot} :Y1 H (.ep o i j tot)=O8 (oat H o) tot:=Zw rfl rfl
def Uc (e:Option (Option Nat×Nat)) (H:List Obj) (x i:V):Option V:=match e,i with
 | some (none,S),.p (.int _ n)=>match x with
  | .p (.list _ xs)=>if 0<=n/\n<xs.length then (if (UW xs n.toNat).cells.length=S then some (.lp (UW xs n.toNat) 0) else none) else none
  | .sl o off len tot=>match oat H o with
   | .elems S' xs=>if xs.length=tot/\S'=S then (if 0<=n/\n<len then some (.ep o (off+n.toNat) 0 tot) else none) else none
   | .cells _=>if S=1/\off=0/\len=tot/\0<=n/\n<len then some (.ptr o n.toNat) else none
   | _=>none
  | _=>none
 | some (some k,S),.p (.int _ n)=>if 0<=n/\n<k then (if Y1 H x then some (A1 (n.toNat*S) x) else none) else none
 | _,_=>none
@[go_sem] theorem Zcq {x i} :Qc P H t x i=Uc (YK P t) H x i:=Zw rfl rfl
theorem G5 {S c xs n} (h0:0<=n) (h1:n<(List.length xs:Int)):Uc (some (none,S)) H (.p (.list c xs)) (.p (.int k n))=if (UW xs n.toNat).cells.length=S then some (.lp (UW xs n.toNat) 0) else none:=by
 simp_all [Uc]
def nth {α:Type} [Inhabited α] (l:List α) (i:Nat):α:=l.getD i default
theorem Yx {α:Type} [Inhabited α] {f:α->PV} {l:List α} {i:Nat} (h:i<l.length):UW (l.map f) i=f (nth l i):=by
 simp [UW,nth,h]
theorem Zi {α:Type} [Inhabited α] {l:List α} {i:Nat} (h:i<l.length):nth l i=l[i]:=by simp [nth,h]
@[go_sem] theorem qI {α:Type} [Inhabited α] {f:α->PV} {l:List α} {S c n} (h0:0<=n) (h1:n<(l.length:Int)) :
  Uc (some (none,S)) H (.p (.list c (l.map f))) (.p (.int k n))=if (f (nth l n.toNat)).cells.length=S then some (.lp (f (nth l n.toNat)) 0) else none:=by
 grind [G5,Yx]
def EY (ob:Obj) (S o off len tot:Nat) (n:Int):Option V:=match ob with
 | .elems S' xs=>if xs.length=tot/\S'=S then (if 0<=n/\n<len then some (.ep o (off+n.toNat) 0 tot) else none) else none
 | .cells _=>if S=1/\off=0/\len=tot/\0<=n/\n<len then some (.ptr o n.toNat) else none
 | _=>none
@[go_sem] theorem sN {S o off len tot n} :Uc (some (none,S)) H (.sl o off len tot) (.p (.int k n))=EY (oat H o) S o off len tot n:=Zw rfl rfl
@[go_sem] theorem Zdz {S xs o off} {len tot:Nat} {n:Int} (h0:0<=n) (h1:n<(len:Int)) (ht:xs.length=tot):EY (.elems S xs) S o off len tot n=some (.ep o (off+n.toNat) 0 tot):=by
 grind [EY]
@[go_sem] theorem nV {cs o} {len:Nat} {n:Int} (h0:0<=n) (h1:n<(len:Int)):EY (.cells cs) 1 o 0 len len n=some (.ptr o n.toNat):=by
 grind [EY]
@[go_sem] theorem qH {n} {m S:Nat} {x} (h0:0<=n) (h1:n<(m:Int)):Uc (some (some m,S)) H x (.p (.int k n))=Dj (some (n.toNat*S)) (Y1 H x) x:=by
 simp_all [Uc,Dj]
def On (H:List Obj) (D:Option TypeDesc) (x:V):Option PV:=match D,x with
 | some (.slice _),.p (.list _ xs)=>some (.int .i64 xs.length)
 | some (.slice _),.sl o _ len tot=>match oat H o with
  | .elems _ xs=>if xs.length=tot then some (.int .i64 len) else none
  | _=>none
 | some .string,.p (.str s)=>some (.int .i64 s.length)
 | some (.array n _),_=>some (.int .i64 n)
 | _,_=>none
@[go_sem] theorem Zjw {x} :TL P H t x=On H (P.underlying t) x:=Zw rfl rfl
@[go_sem] theorem sO {e c xs} :On H (some (.slice e)) (.p (.list c xs))=some (.int .i64 (List.length xs)):=Zw rfl rfl
def Zid (ob:Obj) (len tot:Nat):Option PV:=match ob with | .elems _ xs=>if xs.length=tot then some (.int .i64 len) else none | _=>none
@[go_sem] theorem ZfW {e o off len tot} :On H (some (.slice e)) (.sl o off len tot)=Zid (oat H o) len tot:=Zw rfl rfl
@[go_sem] theorem ZbB {S xs len tot} :Zid (.elems S xs) len tot=if xs.length=tot then some (.int .i64 len) else none:=Zw rfl rfl
@[go_sem] theorem Zct {s} :On H (some .string) (.p (.str s))=some (.int .i64 (List.length s)):=Zw rfl rfl
@[go_sem] theorem ZjE {b} :aun .not (.p (.bool b))=some (.bool (!b)):=Zw rfl rfl
@[go_sem] theorem ZjD {n} :aun .neg (.p (.int k n))=some (.int k (k.wrap (0-n))):=Zw rfl rfl
def TF (D E:Option TypeDesc) (x:V):Option PV:=match D,E,x with
 | some _,some (.int k),.p (.int _ n)=>some (.int k (k.wrap n))
 | some (.int _),some .string,.p (.int _ n)=>if 0<=n/\n<128 then some (.str [UInt8.ofNat n.toNat]) else none
 | some .string,some .string,.p (.str b)=>some (.str b)
 | _,_,_=>none
@[go_sem] theorem ZfU {s x} :It P s t x=TF (P.underlying s) (P.underlying t) x:=Zw rfl rfl
@[go_sem] theorem sL {D k' n} :TF (some D) (some (.int k)) (.p (.int k' n))=some (.int k (k.wrap n)):=by rfl
def G3 (E:Option TypeDesc) (H:List Obj) (x:V):Option PV:=match E,x with
  | some (.int .u8),.p (.list _ xs)=>(YL xs).map .str
  | some (.int .u8),.sl o off len tot=>match oat H o with
   | .elems _ xs=>if xs.length=tot/\off+len<=tot then (YL ((xs.take (off+len)).drop off)).map .str else none
   | _=>none
  | _,_=>none
def G2 (P:Program) (H:List Obj) (D E:Option TypeDesc) (x:V):Option PV:=match D,E with
 | some (.slice e),some .string=>G3 (P.underlying e) H x
 | _,_=>none
@[go_sem] theorem Zcb {s x} :B9 P H s t x=G2 P H (P.underlying s) (P.underlying t) x:=Zw rfl rfl
@[go_sem] theorem qD {E x} :G2 P H (some (.int k)) E x=none:=Zw rfl rfl
@[go_sem] theorem iR {e x} :G2 P H (some (.slice e)) (some .string) x=G3 (P.underlying e) H x:=Zw rfl rfl
def gM (ob:Obj) (off len tot:Nat):Option PV:=match ob with | .elems _ xs=>if xs.length=tot/\off+len<=tot then (YL ((xs.take (off+len)).drop off)).map .str else none | _=>none
@[go_sem] theorem sI {o off len tot} :G3 (some (.int .u8)) H (.sl o off len tot)=gM (oat H o) off len tot:=Zw rfl rfl
@[go_sem] theorem nQ {S xs off len tot} :gM (.elems S xs) off len tot=if xs.length=tot/\off+len<=tot then (YL ((xs.take (off+len)).drop off)).map .str else none:=Zw rfl rfl
@[go_sem] theorem qZ : YL []=some []:=Zw rfl rfl
@[go_sem] theorem kQ {n r} :YL (.int .u8 n::r)=(YL r).map (UInt8.ofNat n.toNat:: ·):=by rfl
@[go_sem] theorem ZkY {a b:Int} (h:0<=a):a.tdiv b=a / b:=Int.tdiv_eq_ediv_of_nonneg h
@[go_sem] theorem Zlc {a b:Int} (h:0<=a):a.tmod b=a%b:=Int.tmod_eq_emod_of_nonneg h
@[go_sem] theorem ZnX {cs} :vc H (.p (.agg cs))=if cs.all (·.one)=true then some (cs.map .p) else none:=by rfl
@[go_sem] theorem Zld {cs} :vc H (.agg cs)=if cs.all (V.one H)=true then some cs else none:=by rfl
@[go_sem] theorem ZnY {n} :vc H (.p (.int k n))=some [.p (.int k n)]:=Zw rfl rfl
@[go_sem] theorem Zle {n} :vc H (.p (.bool n))=some [.p (.bool n)]:=Zw rfl rfl
@[go_sem] theorem ZnZ {n} :vc H (.p (.str n))=some [.p (.str n)]:=Zw rfl rfl
@[go_sem] theorem Zlf {c xs} :vc H (.p (.list c xs))=some [.p (.list c xs)]:=Zw rfl rfl
@[go_sem] theorem Zpb {o off len tot} :vc H (.sl o off len tot)=if Pb (oat H o) tot=true then some [.sl o off len tot] else none:=Zw rfl rfl
@[go_sem] theorem Zn0 {x} :V.one H (.p x)=x.one:=Zw rfl rfl
@[go_sem] theorem Zli {o off len tot} :V.one H (.sl o off len tot)=Pb (oat H o) tot:=Zw rfl rfl
@[go_sem] theorem Zlh {o} :V.one H (.mp o)=O9 (oat H o):=Zw rfl rfl
@[go_sem] theorem Zpa {o} :vc H (.mp o)=if O9 (oat H o)=true then some [.mp o] else none:=Zw rfl rfl
@[go_sem] theorem Zdf {es} :O9 (.map es)=true:=Zw rfl rfl
@[go_sem] theorem ZkD {α:Type} {n} {cs:List α} :JS ([]:List α) n cs= []:=by rfl
@[go_sem] theorem Zif {α:Type} {x c:α} {l cs} :JS (x::l) 0 (c::cs)=c::JS l 0 cs:=by simp [JS]
@[go_sem] theorem ZdA {α:Type} {x:α} {l} :JS (x::l) 0 []=x::l:=by simp [JS]
@[go_sem] theorem Zie {α:Type} {x:α} {l cs n} :JS (x::l) (n+1) cs=x::JS l n cs:=by simp [JS]
def fK (H:List Obj) (o:Nat) (ob:Obj) (off n:Nat) (cs:List V):Option (List Obj):=match ob with
 | .cells old=>if off+n<=old.length then some (EB H o (.cells (JS old off cs))) else none
 | _=>none
@[go_sem] theorem tR {n o off cs} :Ay H n (.ptr o off) cs=if cs.length=n then fK H o (oat H o) off n cs else none:=Zw rfl rfl
@[go_sem] theorem nE {o old off n cs} :fK H o (.cells old) off n cs=if off+n<=old.length then some (EB H o (.cells (JS old off cs))) else none:=Zw rfl rfl
def Nj (H:List Obj) (o:Nat) (ob:Obj) (i j tot n:Nat) (ps:Option (List PV)):Option (List Obj):=match ob,ps with
 | .elems S xs,some ps=>if xs.length=tot/\i<xs.length/\j+n<=(UW xs i).cells.length/\ps.all (·.one)=true/\(UW xs i).cells.all (·.one)=true then
   some (EB H o (.elems S (xs.set i (jD (UW xs i) (JS (UW xs i).cells j ps))))) else none
 | _,_=>none
@[go_sem] theorem ZcP {n o i j tot cs} :Ay H n (.ep o i j tot) cs=if cs.length=n then Nj H o (oat H o) i j tot n (Qd cs) else none:=Zw rfl rfl
@[go_sem] theorem uX {α:Type} [Inhabited α] {f:α->PV} {l:List α} {o S i j tot n ps} (ht:l.length=tot) (hi:i<l.length):Nj H o (.elems S (l.map f)) i j tot n (some ps) =
  if j+n<=(f (nth l i)).cells.length/\ps.all (·.one)=true/\(f (nth l i)).cells.all (·.one)=true then
   some (EB H o (.elems S ((l.map f).set i (jD (f (nth l i)) (JS (f (nth l i)).cells j ps))))) else none:=by
 simp_all [Nj,Yx]
@[go_sem] theorem Zkq {a cs} :jD (.agg a) cs= .agg cs:=Zw rfl rfl
@[go_sem] theorem Zkr {n c l} :jD (.int k n) (c::l)=c:=Zw rfl rfl
@[go_sem] theorem ZhI {n c l} :jD (.bool n) (c::l)=c:=Zw rfl rfl
@[go_sem] theorem Zca {l} :DJ P H t l=match Xf P t,C4 P t with
 | some zs,some pl=>(JV H pl (zs.map .p) l).map mkA
 | _,_=>none:=Zw rfl rfl
@[go_sem] theorem Zck {pl cs} :JV H pl cs []=some cs:=by simp [JV]
def TH (H:List Obj) (pl:Nat->Option (Nat×Nat)) (cs:List V) (r:List (Nat×V)) (q:Option (Nat×Nat)) (vs:Option (List V)):Option (List V):=match q,vs with
 | some (off,sz),some vs=>if vs.length=sz/\off+sz<=cs.length then JV H pl (JS cs off vs) r else none
 | _,_=>none
@[go_sem] theorem sM {pl cs i v r} :JV H pl cs ((i,v)::r)=TH H pl cs r (pl i) (vc H v):=Zw rfl rfl
@[go_sem] theorem qF {pl cs off sz vs r} :TH H pl cs r (some (off,sz)) (some vs)=if vs.length=sz/\off+sz<=cs.length then JV H pl (JS cs off vs) r else none:=Zw rfl rfl
@[go_sem] theorem Zmw {l i} :CX l i=l[i]? :=Zw rfl rfl
@[go_sem] theorem Zmv {n i} :plA n i=some (i*n,n):=Zw rfl rfl
end vals
end Go.AM
namespace Go.AM
open Go.RowKit
section
variable {P : Program} {H : List Obj} {k : IntKind} {t u : TypeId} {fr : List V}
def TM (S:Option Nat) (H:List Obj) (n:Nat) (l:List (Nat×V)):Option (V×List Obj):=match S with
 | some S=>if n=l.length/\n*S<=16777216/\0<S then (QK H S 0 l).map fun xs=>(.sl H.length 0 n n,H++ [.elems S xs]) else none
 | none=>none
@[go_sem] theorem Zf1 {n l} :Wj P (.buildSlice t n (List.toArray l)) fr H=TM (UI P t) H n (l.map fun x=>(x.1,ev fr x.2)):=by
 grind [Wj,UI,TM,MU]
@[go_sem] theorem sP {S n l} :TM (some S) H n l=if n=l.length/\n*S<=16777216/\0<S then (QK H S 0 l).map fun xs=>(.sl H.length 0 n n,H++ [.elems S xs]) else none:=Zw rfl rfl
@[go_sem] theorem ZhD {S n} :QK H S n []=some []:=by simp [QK]
@[go_sem] theorem Zdl {S n i x r} :QK H S n ((i,.p x)::r)=if i=n then if x.cells.length=S/\x.cells.all (·.one)=true then (QK H S (n+1) r).map (x:: ·) else none else none:=by rfl
@[go_sem] theorem Zkg {S n i f r} :QK H S n ((i,.fn (.func f) [] [])::r)=if i=n then if 1=S then (QK H S (n+1) r).map (.fn f:: ·) else none else none:=by simp [QK,pvo,PV.cells,PV.one]
def Qz (P:Program) (t:TypeId):Option (Nat×Nat):=match P.underlying t with
 | some (.slice e)=>match Yw P e,zval P e,(P.info? e).map (·.bytes) with
  | some S,some z,some by'=>if 0<S/\z.cells.length=S/\z.cells.all (·.one)=true/\by'≠0 then some (S,by') else none
  | _,_,_=>none
 | _=>none
theorem DQ {S by'} (h:Qz P t=some (S,by')): ∃e z,P.underlying t=some (.slice e)/\Yw P e=some S/\zval P e=some z/\(P.info? e).map (·.bytes)=some by'/\0<S/\z.cells.length=S/\z.cells.all (·.one)=true/\by'≠0:=by
 unfold Qz at h
 grind
def YA (D:Option TypeDesc) (H:List Obj) (y:V):Option (List PV):=match D,y with
 | some (.slice _),.p (.list _ ys)=>some ys
 | some (.slice _),.sl o off len tot=>match oat H o with
  | .elems _ xs=>if xs.length=tot/\off+len<=tot then some ((xs.take (off+len)).drop off) else none
  | _=>none
 | some .string,.p (.str s)=>some (s.map fun b=> .int .u8 b.toNat)
 | _,_=>none
def gV (ob:Obj) (off len tot:Nat):Option (List PV):=match ob with | .elems _ xs=>if xs.length=tot/\off+len<=tot then some ((xs.take (off+len)).drop off) else none | _=>none
@[go_sem] theorem tF {e c ys} :YA (some (.slice e)) H (.p (.list c ys))=some ys:=Zw rfl rfl
@[go_sem] theorem Zgc {e o off len tot} :YA (some (.slice e)) H (.sl o off len tot)=gV (oat H o) off len tot:=Zw rfl rfl
theorem Mr {S xs n} (h:List.length xs=n):gV (.elems S xs) 0 n n=some xs:=by grind [gV]
def IA (H:List Obj) (F:Option (Nat×Nat)) (ys:Option (List PV)):Option (V×List Obj):=match F,ys with
 | some (S,by'),some ys=>if Ak S ys=true/\ys.length*by'<=140737488355328/\ys.length<=140737488355328 then some (.sl H.length 0 ys.length ys.length,H++ [.elems S ys]) else none
 | _,_=>none
def Ud (H:List Obj) (F:Option (Nat×Nat)) (ob:Obj) (o n:Nat) (ys:Option (List PV)):Option (V×List Obj):=match F,ob,ys with
 | some (S,by'),.elems S' xs,some ys=>if S'=S/\xs.length=n/\Ak S ys=true/\(n+ys.length)*by'<=140737488355328/\n+ys.length<=140737488355328 then
   some (.sl o 0 (n+ys.length) (n+ys.length),EB H o (.elems S (xs++ys))) else none
 | _,_,_=>none
theorem G0 {z x y ys e S by'} (h1:P.underlying t=some (.slice e)) (h2:Yw P e=some S) (h3:zval P e=some z) (h4:(P.info? e).map (·.bytes)=some by') (h5:C7 P H u y=some ys) (h6:0<S/\z.cells.length=S/\z.cells.all (·.one)=true/\by'≠0) :
  Wy P H t u x y=if Ak S ys=true then (match x with
    | .p (.list cl xs)=>if cl=true/\Ak S xs=true/\(xs= []\/0<ys.length)/\(xs.length+ys.length)*by'<=140737488355328/\xs.length+ys.length<=140737488355328 then
      some (.sl H.length 0 (xs.length+ys.length) (xs.length+ys.length),H++ [.elems S (xs++ys)]) else none
    | .sl o off len tot=>match oat H o with
     | .elems S' xs=>if S'=S/\off=0/\len=tot/\xs.length=tot/\(tot+ys.length)*by'<=140737488355328/\tot+ys.length<=140737488355328 then
       some (.sl o 0 (tot+ys.length) (tot+ys.length),EB H o (.elems S (xs++ys))) else none
     | _=>none
    | _=>none) else none:=by
 simp only [Wy,h1,h2,h3,h4,h5]
 grind
theorem AS {y F} (hF:Qz P t=some F):Wy P H t u (.p (.list true [])) y=IA H (some F) (YA (P.underlying u) H y):=by
 obtain ⟨S,by'⟩:=F;obtain ⟨e,z,h1,h2,h3,h4,h6⟩:=DQ hF;have e1:YA (P.underlying u) H y=C7 P H u y:=Zw rfl rfl;rw [e1]
 cases h5:C7 P H u y with
 | none=>grind [Wy,IA]
 | some ys =>
  grind [G0,IA,Ak]
theorem Yn {y F o n} (hF:Qz P t=some F):Wy P H t u (.sl o 0 n n) y=Ud H (some F) (oat H o) o n (YA (P.underlying u) H y):=by
 obtain ⟨S,by'⟩:=F;obtain ⟨e,z,h1,h2,h3,h4,h6⟩:=DQ hF;have e1:YA (P.underlying u) H y=C7 P H u y:=Zw rfl rfl;rw [e1]
 cases h5:C7 P H u y with
 | none =>
  grind [Wy,Ud]
 | some ys =>
  rw [G0 h1 h2 h3 h4 h5 h6];simp only [Ud]
  grind
@[go_sem] theorem ZcE {S b ys} :IA H (some (S,b)) (some ys)=if Ak S ys=true/\ys.length*b<=140737488355328/\ys.length<=140737488355328 then some (.sl H.length 0 ys.length ys.length,H++ [.elems S ys]) else none:=Zw rfl rfl
theorem FL {S b xs ys o n} (hn:xs.length=n) (hb:(n+ys.length)*b<=140737488355328) (hb2:n+ys.length<=140737488355328):Ud H (some (S,b)) (.elems S xs) o n (some ys)=if Ak S ys=true then some (.sl o 0 (n+ys.length) (n+ys.length),EB H o (.elems S (xs++ys))) else none:=by
 simp_all [Ud]
@[go_sem] theorem Zih {α:Type} {S} {f:α->PV} {l:List α} :gV (.elems S (l.map f)) 0 l.length l.length=some (l.map f):=Mr Zb
@[go_sem] theorem Zii {S x} :gV (.elems S [x]) 0 1 1=some [x]:=Mr Zb
@[go_sem] theorem ZcG {α:Type} {S b o x} {f:α->PV} {l:List α} (hb:(l.length+1)*b<=140737488355328) (hb2:l.length+1<=140737488355328):Ud H (some (S,b)) (.elems S (l.map f)) o l.length (some [x])=if Ak S [x]=true then some (.sl o 0 (l.length+1) (l.length+1),EB H o (.elems S (l.map f++ [x]))) else none :=
 FL Zb Za Za
@[go_sem] theorem ZcH {α β:Type} {S b o} {f:α->PV} {g:β->PV} {l:List α} {m:List β} (hb:(l.length+m.length)*b<=140737488355328) (hb2:l.length+m.length<=140737488355328):Ud H (some (S,b)) (.elems S (l.map f)) o l.length (some (m.map g))=if Ak S (m.map g)=true then some (.sl o 0 (l.length+m.length) (l.length+m.length),EB H o (.elems S (l.map f++m.map g))) else none:=by
 grind [FL]
@[go_sem] theorem Zkv {S} :Ak S []=true:=Zw rfl rfl
@[go_sem] theorem ZhR {S x l} :Ak S (x::l)=((x.cells.length==S)&&x.cells.all (·.one)&&Ak S l):=by rfl
theorem Bz {α:Type} {S} {f:α->PV} {l:List α} (h: ∀x,Zbe S (f x)=true):Ak S (l.map f)=true:=by grind [Ak]
def LB (P:Program) (t:TypeId):Option (Nat×Nat×PV):=match P.underlying t with
  | some (.slice e)=>match Yw P e,zval P e,(P.info? e).map (·.bytes) with
   | some S,some z,some by'=>if z.cells.all (·.one)=true/\z.cells.length=S/\0<S then some (S,by',z) else none
   | _,_,_=>none
  | _=>none
end
def WA : Nat->List Nat->List V->List V
 | _,_,[]=> []
 | i,[],_::l=> .junk::WA (i+1) [] l
 | i,k::ks,x::l=>if i=k then x::WA (i+1) ks l else .junk::WA (i+1) (k::ks) l
def Al : List (Nat×V)->List V->List V
 | [],fr=>fr
 | (i,v)::r,fr=>Al r (pt fr i v)
@[go_sem] theorem Zdg {i ks} :WA i ks []= []:=by rfl
@[go_sem] theorem Za1 {i x l} :WA i [] (x::l)= .junk::WA (i+1) [] l:=by simp [WA]
@[go_sem] theorem Za0 {i k ks x l} :WA i (k::ks) (x::l)=if i=k then x::WA (i+1) ks l else .junk::WA (i+1) (k::ks) l:=by simp [WA]
@[go_sem] theorem Zob : ((0:Nat):Int)=0:=Zw rfl rfl
@[go_sem] theorem Zoc {n:Nat} :((n+1:Nat):Int)=(n:Int)+1:=Zw rfl rfl
@[go_sem] theorem Zm5 {n:Nat} :((n:Int)).toNat=n:=Zw rfl rfl
@[go_sem] theorem Zib {fr} :Al [] fr=fr:=by simp [Al]
@[go_sem] theorem Zdy {i v r fr} :Al ((i,v)::r) fr=Al r (pt fr i v):=by simp [Al]
@[go_sem] theorem ZjB {p q:Prop} [Decidable p] [Decidable q]:(decide p&&decide q)=decide (p/\q):=Zb
@[go_sem] theorem Zbj {p q:Prop} [Decidable p] [Decidable q]:(decide p||decide q)=decide (p\/q):=Zb
theorem Zj {P c fr H Q} {I:Type} (ks:List Nat) (sets:I->List (Nat×V)) (hs:I->List Obj) (R:I->Prop) (μ:I->Nat) (i0:I) (hR:R i0) (h0:Weak H.length fr H (Al (sets i0) (WA 0 ks fr)) (hs i0))
  (round: ∀i,R i->Q6 [] P c (Al (sets i) (WA 0 ks fr)) (hs i) (QY (fun fr' H'=> ∃i',R i'/\μ i'<μ i/\Weak H.length fr' H' (Al (sets i') (WA 0 ks fr)) (hs i')) Q)):AWP P (.loop c) fr H Q :=
 IL R (fun i=>Al (sets i) (WA 0 ks fr)) hs μ i0 hR h0 fun i hi=>Zf [] _ _ _ _ (round i hi)
theorem ZS {P c fr H Q} (cuts:List Nat) {I:Type} (ks:List Nat) (sets:I->List (Nat×V)) (hs:I->List Obj) (R:I->Prop) (μ:I->Nat) (i0:I) (hR:R i0) (h0:Weak H.length fr H (Al (sets i0) (WA 0 ks fr)) (hs i0))
  (round: ∀i,R i->Q6 cuts P c (Al (sets i) (WA 0 ks fr)) (hs i) (QY (fun fr' H'=> ∃i',R i'/\μ i'<μ i/\Weak H.length fr' H' (Al (sets i') (WA 0 ks fr)) (hs i')) Q)):AWP P (.loop c) fr H Q :=
 IL R (fun i=>Al (sets i) (WA 0 ks fr)) hs μ i0 hR h0 fun i hi=>Zf cuts _ _ _ _ (round i hi)
theorem ZJ {P x y fr H Q} {I:Type} (ks:List Nat) (sets:I->List (Nat×V)) (hs:I->List Obj) (R:I->Prop)
  (h:Q6 [] P x fr H (QY (fun fr' H'=> ∃i,R i/\Weak H.length fr' H' (Al (sets i) (WA 0 ks fr)) (hs i)) Q)) (k: ∀i,R i->AWP P y (Al (sets i) (WA 0 ks fr)) (hs i) Q):AWP P (.seq x y) fr H Q :=
 fun F ι a w hr hf=>by
 refine wp_seq (wp_mono (Zf [] _ _ _ _ h F ι a w hr hf) ?_);rintro e a' w' ⟨fr',H',ι',q,g,f⟩
 cases e with
 | normal =>
  obtain ⟨i,hi,hw⟩:=q;obtain ⟨ι2,r2,f2,g2⟩:=hw F ι' a' w' g.rel f;refine wp_mono (k i hi F ι2 a' w' r2 f2) ?_;rintro e2 a2 w2 ⟨fr2,H2,ι3,q2,g3,f3⟩;exact ⟨fr2,H2,ι3,q2,(g2 H ι w (ZL _) g).trans g3,f3⟩
 | exit id=>exact ⟨fr',H',ι',q,g,f⟩
 | goto l=>exact ⟨fr',H',ι',q,g,f⟩
 | ret=>exact ⟨fr',H',ι',q,g,f⟩
 | panic ch=>exact ⟨fr',H',ι',q,g,f⟩
 | outgrown=>exact ⟨fr',H',ι',q,g,f⟩
theorem Zjg {H n x} :E9 H n x x=(refB n x=true\/x= .junk\/ ∃y,jA H n x=some y/\x= .p y):=by
 simp only [E9,true_and,eq_iff_iff]
 grind
@[go_sem] theorem Zje {H n x} :E9 H n x .junk=True:=by simp [E9]
@[go_sem] theorem Zn3 {H n} {x y:PV} :E9 H n (.p x) (.p y)=(y=x):=by simp [E9,refB,jA]
@[go_sem] theorem Zln {H n o off len tot o' off' len' tot'} :E9 H n (.sl o off len tot) (.sl o' off' len' tot')=((o'=o/\off'=off/\len'=len/\tot'=tot)/\o<n):=by simp [E9,refB]
@[go_sem] theorem Zjf {H n o off o' off'} :E9 H n (.ptr o off) (.ptr o' off')=((o'=o/\off'=off)/\o<n):=by simp [E9,refB]
@[go_sem] theorem Zlj {H n} :PU H n [] []=True:=by simp [PU]
@[go_sem] theorem Zjb {H n x l x' l'} :PU H n (x::l) (x'::l')=(E9 H n x x'/\PU H n l l'):=by simp [PU]
@[go_sem] theorem Zlk {H n l} :MH H n l []=True:=by simp [MH]
@[go_sem] theorem Zjc {H n x l x' l'} :MH H n (x::l) (x'::l')=(DH H n x x'/\MH H n l l'):=by simp [MH]
@[go_sem] theorem Zex {H n cs cs'} :DH H n (.cells cs) (.cells cs')=PU H n cs cs':=by simp [DH]
@[go_sem] theorem Zey {H n S S' xs xs'} :DH H n (.elems S xs) (.elems S' xs')=(S=S'/\xs=xs'):=by simp [DH]
@[go_sem] theorem Zll {H n es es2} :DH H n (.map es) (.map es2)=(es=es2):=by simp [DH]
@[go_sem] theorem Zn2 {H n o o2} :E9 H n (.mp o) (.mp o2)=(o2=o/\o<n):=by simp [E9,refB,jA]
@[go_sem] theorem Zjd {H n} :DH H n .dead .dead=True:=by simp [DH]
theorem Weak.mk {n0 fr H fr' H'} (h:n0<=H'.length/\H'.length<=H.length/\PU H H'.length fr fr'/\MH H H'.length H H'):Weak n0 fr H fr' H':=Weak.of h.1 h.2.2.1 h.2.2.2 h.2.1
theorem wk {n0 fr H fr' H'} (h:n0<=H'.length/\H'.length<=H.length/\PU H H'.length fr fr'/\MH H H'.length H H':=by simp (disch:=omega) only [go_sem,seval]):Weak n0 fr H fr' H':=Weak.mk h
theorem we {n0 x H' a b} (h:n0<=List.length b/\List.length b<=H'.length/\PU H' (List.length b) [x] [a]/\MH H' (List.length b) H' b:=by simp (disch:=omega) only [go_sem,seval]): ∃y H'',Weak n0 [x] H' [y] H''/\y=a/\H''=b:=⟨_,_,Weak.mk h,rfl,rfl⟩
attribute [go_sem] List.length_cons List.length_nil List.cons_append List.nil_append List.append_nil List.map_cons List.map_nil List.drop_zero List.drop_succ_cons List.drop_nil List.take_succ_cons List.take_zero List.take_nil List.all_cons List.all_nil
 Xl V5 and_self true_and and_true KT KR Ds Dr Jm Zge Bool.and_self Zu if_true Ys WG Jn IntWalk.i64_in IntWalk.i32_in IntWalk.u8_in IntWalk.u64_in IntWalk.u32_in
 beq_self_eq_true Jh List.replicate_zero Bool.or_true Bool.true_or Bool.or_false Bool.false_or Uy VZ
end Go.AM
namespace Go.AM
open Go.RowKit
theorem RP.weaker {X X':Nat->Prop} {w x v} (h:RP X w x v) (hx: ∀b,X' b->X b):RP X' w x v:=h.ext (w':=w) fun _ hb hs=>⟨fun h=>hb (hx _ h),hs,rfl⟩
theorem Good.forget {F w H' ι' w'} (he:Env F [] w) (hf: ∀b,F b->b<w.heap.size) (g:Good F [] [] w H' ι' w'):Good F [] [] w [] [] w' :=
 .up he ⟨⟨rfl,fun b hb=>by have:=hf b hb;have:=g.size;omega,fun i j b hi=>by simp at hi,fun i b hi=>by simp at hi,fun o cs ho=>by simp at ho,fun o S xs ho=>by simp at ho,fun o es ho=>by simp at ho,fun o T E r bs ho=>by simp at ho⟩,
  g.os,g.tape,g.output,fun b c t h=>(g.shape b c t h).imp (fun h=>absurd h.1 Zb) id,g.size,g.keep,fun _ _ h=>h,fun o ob ho=>by simp at ho⟩
theorem ACalls.pure {P g args} {y:PV} (h:ACalls P g args [] fun x _=>x= .p y):ACalls P g args [] fun x H'=>x= .p y/\H'= []:=by
 refine ⟨h.1,fun F ι w vs hr hv=> ?_⟩;have hι:ι= []:=Xe hr.len;subst hι;refine (h.2 F [] w vs hr hv).mono ?_;rintro e w' ⟨x,H',ι',v,rfl,rfl,gd,rv⟩
 cases rv with | p _ _ rp =>
 exact ⟨_,[],[],v,rfl,⟨rfl,rfl⟩,gd.forget hr.env hr.fin,.p _ _ (rp.weaker fun b hb=> .inl (by rcases hb with hb | hb;exact hb;simp at hb))⟩
theorem Ee {F:Nat->Prop} {w w':World} {H':List Obj} {ι':List (Option Nat)} {v:Value} {o S n:Nat} {xs:List PV} (hF: ∀b,F b->b<w.heap.size) (hn:xs.length=n) (ho:oat H' o= .elems S xs)
  (gd:Good F [] [] w H' ι' w') (rv:RV F H' ι' w' (.sl o 0 n n) v): ∃ι2,Good F [] [] w [.elems S xs] ι2 w'/\RV F [.elems S xs] ι2 w' (.sl 0 0 n n) v:=by
 have hH:=Z4 ho Zb;have hlt:=(Zt.1 hH).1
 have hlt':o<ι'.length:=by rw [gd.rel.len];exact hlt
 have hι':ι'[o]? =some (ι'[o]):=by simp [hlt']
 have hget: ∀ {i:Nat} {q:Option Nat},[ι'[o]][i]? =some q->i=0/\ι'[o]? =some q:=fun {i q} h=>by
  grind
 have hown: ∀b,Own F [ι'[o]] b->Own F ι' b:=fun b hb=>by
  rcases hb with hb | hb
  ·exact .inl hb
  ·simp at hb;right;rw [hb];simp
 refine ⟨[ι'[o]],⟨⟨⟨rfl,fun b hb=> ?_,fun i j b hi hj=> ?_,fun i b hi=> ?_,fun o' cs ho'=> ?_,fun o' S' xs' ho'=> ?_,fun o' es ho'=>by grind,fun o' T E r bs ho'=>by grind⟩,gd.rel.env.le hown⟩,gd.os,gd.tape,gd.output,fun b c t h=>(gd.shape b c t h).imp (fun h=>absurd h.1 Zb) id,gd.size,gd.keep,fun b hb _ h=> ?_,fun o ob ho=>by simp at ho⟩,?_⟩
 ·have:=hF b hb;have:=gd.size;omega
 ·grind
 ·exact gd.rel.avo o b (hget hi).2
 ·grind
 ·cases o' with
  | zero =>
   simp at ho';obtain ⟨rfl,rfl⟩:=ho';rcases gd.rel.elm o _ _ hH with ⟨e1,e2⟩ | ⟨b,c,t,cap,e1,e2,e3,e4,e5,e6,e7⟩
   ·grind
   ·exact .inr ⟨b,c,t,cap,by grind,e2,e3,e4,e5,e6,fun i x j y hi hj=>(e7 i x j y hi hj).weaker hown⟩
  | succ i=>simp at ho'
 ·simp at h;exact gd.own b hb Zb (by rw [h];simp)
 ·cases rv with
  | slNil _ S2 a h1 h2 =>
   rw [hH] at h2;simp at h2;obtain ⟨rfl,rfl⟩:=h2;exact .slNil 0 S a (by grind) rfl
  | sl _ _ _ _ b S2 cap t xs2 c h1 h2 ht hw hcap hl hlen hm =>
   rw [hH] at h2;simp at h2;obtain ⟨rfl,rfl⟩:=h2;exact .sl 0 0 n n b S cap t xs c (by grind) rfl hn hw hcap hl hlen hm
  | slD _ _ _ _ _ h1=>grind
  | slS _ _ _ _ _ S2 xs2 h1 hne=>grind
  | slC _ _ _ _ _ _ hd=>grind
theorem ACalls.fresh {P g args} {S n:Nat} {xs:List PV} (hn:xs.length=n) (h:ACalls P g args [] fun x H'=> ∃o,x= .sl o 0 n n/\oat H' o= .elems S xs):ACalls P g args [] fun x H'=>x= .sl 0 0 n n/\H'= [.elems S xs]:=by
 refine ⟨h.1,fun F ι w vs hr hv=> ?_⟩;have hι:ι= []:=Xe hr.len;subst hι;refine (h.2 F [] w vs hr hv).mono ?_;rintro e w' ⟨x,H',ι',v,rfl,⟨o,rfl,ho⟩,gd,rv⟩;obtain ⟨ι2,g2,r2⟩:=Ee hr.fin hn ho gd rv
 grind
theorem ACalls.freshE {P g args} {α:Type} {S:Nat} {f:α->PV} {R:List α->Prop} (h:ACalls P g args [] fun x H'=> ∃l:List α,R l/\ ∃o,x= .sl o 0 l.length l.length/\oat H' o= .elems S (l.map f)) :
  ACalls P g args [] fun x H'=> ∃l:List α,R l/\x= .sl 0 0 l.length l.length/\H'= [.elems S (l.map f)]:=by
 refine ⟨h.1,fun F ι w vs hr hv=> ?_⟩;have hι:ι= []:=Xe hr.len;subst hι;refine (h.2 F [] w vs hr hv).mono ?_;rintro e w' ⟨x,H',ι',v,rfl,⟨l,hl,o,rfl,ho⟩,gd,rv⟩;obtain ⟨ι2,g2,r2⟩:=Ee hr.fin Zb ho gd rv
 grind
theorem ACalls.frozen {P g args} {S n:Nat} {xs:List PV} (hn:xs.length=n) (h:ACalls P g args [] fun x H'=>x= .sl 0 0 n n/\H'= [.elems S xs]):ACalls P g args [] fun x H'=>x= .p (.list false xs)/\H'= []:=by
 refine ⟨h.1,fun F ι w vs hr hv=> ?_⟩;have hι:ι= []:=Xe hr.len;subst hι;refine (h.2 F [] w vs hr hv).mono ?_;rintro e w' ⟨x,H',ι',v,rfl,⟨rfl,rfl⟩,gd,rv⟩;have hk:Keeps (Own F ι') w' (Own F []) w':=fun b hb hs=>⟨fun h=>hb (.inl (by rcases h with h | h;exact h;simp at h)),hs,rfl⟩
 have:=Kq (S:=S) (xs:=xs) (off:=0) (len:=n) (tot:=n) (Own F []) (fun b hb h=>by
  rcases h with h | h
  ·exact (gd.rel.avo 0 b hb).1 h
  ·simp at h) hk gd.rel rfl hn Za rv
 rw [Xl,List.drop_zero,Kb Za] at this;exact ⟨_,[],[],v,rfl,⟨rfl,rfl⟩,gd.forget hr.env hr.fin,.p _ _ this⟩
theorem ACalls.frozenE {P g args} {α:Type} {S:Nat} {f:α->PV} {R:List α->Prop} (h:ACalls P g args [] fun x H'=> ∃l:List α,R l/\x= .sl 0 0 l.length l.length/\H'= [.elems S (l.map f)]) :
  ACalls P g args [] fun x H'=> ∃l:List α,R l/\x= .p (.list false (l.map f))/\H'= []:=by
 refine ⟨h.1,fun F ι w vs hr hv=> ?_⟩;have hι:ι= []:=Xe hr.len;subst hι;refine (h.2 F [] w vs hr hv).mono ?_;rintro e w' ⟨x,H',ι',v,rfl,⟨l,hl,rfl,rfl⟩,gd,rv⟩;have hk:Keeps (Own F ι') w' (Own F []) w':=fun b hb hs=>⟨fun h=>hb (.inl (by rcases h with h | h;exact h;simp at h)),hs,rfl⟩
 have:=Kq (S:=S) (xs:=l.map f) (off:=0) (len:=l.length) (tot:=l.length) (Own F []) (fun b hb h=>by
  rcases h with h | h
  ·exact (gd.rel.avo 0 b hb).1 h
  ·simp at h) hk gd.rel rfl Zb Za rv
 rw [Xl,List.drop_zero,Kb Zb] at this;exact ⟨_,[],[],v,rfl,⟨l,hl,rfl,rfl⟩,gd.forget hr.env hr.fin,.p _ _ this⟩
theorem ACalls.useV {P g args} {α:Type} {f:α->PV} {R:α->Prop} {H:List Obj} {K:V->List Obj->Prop} (h:ACalls P g args [] fun x H'=> ∃a:α,R a/\x= .p (f a)/\H'= []) (k: ∀a,R a->K (.p (f a)) H) (ha:Xb 0 args=true:=by rfl):ACalls P g args H K:=by
 refine (h.behind ha H).mono ?_;rintro x H' ⟨y',H1,⟨a,ra,rfl,rfl⟩,rfl,rfl⟩
 grind [shV]
theorem ACalls.useE {P g args} {α:Type} {S:Nat} {f:α->PV} {R:List α->Prop} {H:List Obj} {K:V->List Obj->Prop} (h:ACalls P g args [] fun x H'=> ∃l:List α,R l/\x= .sl 0 0 l.length l.length/\H'= [.elems S (l.map f)])
  (k: ∀l,R l->K (.sl H.length 0 l.length l.length) (H++ [.elems S (l.map f)])) (ha:Xb 0 args=true:=by rfl):ACalls P g args H K:=by
 refine (h.behind ha H).mono ?_;rintro x H' ⟨y',H1,⟨l,rl,rfl,rfl⟩,rfl,rfl⟩
 grind [shV,shO]
theorem ACalls.use {P g args} {y:PV} {H:List Obj} {K:V->List Obj->Prop} (h:ACalls P g args [] fun x H'=>x= .p y/\H'= []) (k:K (.p y) H) (ha:Xb 0 args=true:=by rfl):ACalls P g args H K:=by
 refine (h.behind ha H).mono ?_;rintro x H' ⟨y',H1,⟨rfl,rfl⟩,rfl,rfl⟩
 grind [shV]
theorem ACalls.useF {P g args} {S n:Nat} {xs:List PV} {H:List Obj} {K:V->List Obj->Prop} (h:ACalls P g args [] fun x H'=>x= .sl 0 0 n n/\H'= [.elems S xs]) (k:K (.sl H.length 0 n n) (H++ [.elems S xs])) (ha:Xb 0 args=true:=by rfl):ACalls P g args H K:=by
 refine (h.behind ha H).mono ?_;rintro x H' ⟨y',H1,⟨rfl,rfl⟩,rfl,rfl⟩
 grind [shV,shO]
theorem Zc {P:Program} {g:FuncId} {fn:Func} {c:Code} {args:List V} {y:PV} (hf:P.funcs[g]? =some fn) (hb:fn.body=some c) (hg:Zh P g)
  (h:Q6 [] P c (args++List.replicate (fn.ntmps-args.length) .junk) [] (JR P fn.results.toList fun x _=>x= .p y)):ACalls P g args [] fun x H'=>x= .p y/\H'= [] :=
 (X7 hf hb hg (Zf [] _ _ _ _ h)).pure
theorem AT (cuts:List Nat) {P:Program} {g:FuncId} {fn:Func} {c:Code} {args:List V} {y:PV} (hf:P.funcs[g]? =some fn) (hb:fn.body=some c) (hg:Zh P g)
  (h:Q6 cuts P c (args++List.replicate (fn.ntmps-args.length) .junk) [] (JR P fn.results.toList fun x _=>x= .p y)):ACalls P g args [] fun x H'=>x= .p y/\H'= [] :=
 (X7 hf hb hg (Zf cuts _ _ _ _ h)).pure
theorem Ub {P:Program} {g:FuncId} {fn:Func} {c:Code} {args:List V} {S n:Nat} {xs:List PV} (hn:xs.length=n) (hf:P.funcs[g]? =some fn) (hb:fn.body=some c) (hg:Zh P g)
  (h:Q6 [] P c (args++List.replicate (fn.ntmps-args.length) .junk) [] (JR P fn.results.toList fun x H'=> ∃o,x= .sl o 0 n n/\oat H' o= .elems S xs)):ACalls P g args [] fun x H'=>x= .sl 0 0 n n/\H'= [.elems S xs] :=
 (X7 hf hb hg (Zf [] _ _ _ _ h)).fresh hn
theorem Fk (cuts:List Nat) {P:Program} {g:FuncId} {fn:Func} {c:Code} {args:List V} {S n:Nat} {xs:List PV} (hn:xs.length=n) (hf:P.funcs[g]? =some fn) (hb:fn.body=some c) (hg:Zh P g)
  (h:Q6 cuts P c (args++List.replicate (fn.ntmps-args.length) .junk) [] (JR P fn.results.toList fun x H'=> ∃o,x= .sl o 0 n n/\oat H' o= .elems S xs)):ACalls P g args [] fun x H'=>x= .sl 0 0 n n/\H'= [.elems S xs] :=
 (X7 hf hb hg (Zf cuts _ _ _ _ h)).fresh hn
theorem Z6 (cuts:List Nat) {P:Program} {g:FuncId} {fn:Func} {c:Code} {args:List V} {α:Type} {S:Nat} {f:α->PV} {R:List α->Prop} (hf:P.funcs[g]? =some fn) (hb:fn.body=some c) (hg:Zh P g)
  (h:Q6 cuts P c (args++List.replicate (fn.ntmps-args.length) .junk) [] (JR P fn.results.toList fun x H'=> ∃l:List α,R l/\ ∃o,x= .sl o 0 l.length l.length/\oat H' o= .elems S (l.map f))):ACalls P g args [] fun x H'=> ∃l:List α,R l/\x= .sl 0 0 l.length l.length/\H'= [.elems S (l.map f)] :=
 (X7 hf hb hg (Zf cuts _ _ _ _ h)).freshE
theorem Weak.ofNil {n0 fr H fr' H'} (t S:Nat) (h:gt fr t= .p (.list true [])) (hn:n0<=H.length) (k:Weak n0 (pt fr t (.sl H.length 0 0 0)) (H++ [.elems S []]) fr' H'):Weak n0 fr H fr' H' :=
 (Weak.nil t S h hn).trans k
end Go.AM
namespace Go.AM
open Go.RowKit
section
variable {P : Program} {H : List Obj} {t : TypeId} {fr : List V}
def DS (e:Option (Option Nat×Nat)) (c:Bool) (xs:List PV) (lo hi:V):Option V:=match e,lo,hi with
 | some (none,S),.p (.int _ a),.p (.int _ b)=>if AX S xs=true/\0<=a/\a<=b/\b<=xs.length then some (.p (.list (c&&decide (b=xs.length)) ((xs.take b.toNat).drop a.toNat))) else none
 | _,_,_=>none
def V.isInt : V->Option Int
 | .p (.int _ n)=>some n
 | _=>none
theorem V.isInt_some {x:V} {n} (h:x.isInt=some n): ∃k,x= .p (.int k n):=by
 unfold V.isInt at h;grind
theorem Qw {d:Int} {x:Operand} :MM d fr (some x)=(ev fr x).isInt:=rfl
theorem Cc {c xs k k' a b} :(Q4 P t c xs a b none).map .p=DS (YK P t) c xs (.p (.int k a)) (.p (.int k' b)):=by
 simp only [Q4,DS]
 grind
theorem Ox {e c xs lo hi} (h:lo.isInt=none):DS e c xs lo hi=none:=by
 unfold DS;grind [V.isInt]
theorem Ow {e c xs lo hi} (h:hi.isInt=none):DS e c xs lo hi=none:=by
 unfold DS;grind [V.isInt]
@[go_sem] theorem ZcJ {c xs hi} :WM P H t fr (.p (.list c xs)) none (some hi) none=DS (YK P t) c xs (.p (.int .i64 0)) (ev fr hi):=by
 simp only [WM,Qw]
 cases h:(ev fr hi).isInt with
 | none=>simp [MM,Ow h]
 | some n=>obtain ⟨k,e⟩:=V.isInt_some h;rw [e,<- Cc];rfl
@[go_sem] theorem ZcK {c xs lo} :WM P H t fr (.p (.list c xs)) (some lo) none none=DS (YK P t) c xs (ev fr lo) (.p (.int .i64 (List.length xs))):=by
 simp only [WM,Qw]
 cases h:(ev fr lo).isInt with
 | none=>simp [Ox h]
 | some n=>obtain ⟨k,e⟩:=V.isInt_some h;rw [e,<- Cc];rfl
@[go_sem] theorem qK {c xs lo hi} :WM P H t fr (.p (.list c xs)) (some lo) (some hi) none=DS (YK P t) c xs (ev fr lo) (ev fr hi):=by
 simp only [WM,Qw]
 cases h:(ev fr lo).isInt with
 | none=>simp [Ox h]
 | some n =>
  cases h2:(ev fr hi).isInt with
  | none=>simp [Ow h2]
  | some m=>grind [V.isInt_some,Cc]
@[go_sem] theorem Zgb {α:Type} {f:α->PV} {l:List α} {S c k k' a b} (h0:0<=a) (h1:a<=b) (h2:b<=(l.length:Int)) :
  DS (some (none,S)) c (l.map f) (.p (.int k a)) (.p (.int k' b))=if AX S (l.map f)=true then some (.p (.list (c&&decide (b=l.length)) (((l.take b.toNat).drop a.toNat).map f))) else none:=by
 simp_all [DS]
end
def Iu (P:Program) (d:Option TypeDesc) (x i:V):Option V :=
 match d,x,i with
 | some .string,.p (.str s),.p (.int _ n)=>if 0<=n then (s[n.toNat]?).map fun b=> .p (.int .u8 b.toNat) else none
 | some (.array k e),.p (.agg cs),.p (.int _ n)=>if 0<=n/\n<k then (match Yw P e with | some m=>(apart P e cs (n.toNat*m)).map .p | none=>none) else none
 | _,_,_=>none
@[go_sem] theorem Zjv {P:Program} {t:TypeId} {x i:V} :Iv P t x i=Iu P (P.underlying t) x i:=Zw rfl rfl
@[go_sem] theorem Zcp {P:Program} {s:List UInt8} {k n} (h0:0<=n) (h1:n<(s.length:Int)):Iu P (some .string) (.p (.str s)) (.p (.int k n))=some (.p (.int .u8 ((nth s n.toNat).toNat:Nat))):=by
 grind [Iu,Zi]
def Hd (d:Option TypeDesc) (s:List UInt8) (lo hi:V):Option V:=match d,lo,hi with
 | some .string,.p (.int _ a),.p (.int _ b)=>if 0<=a/\a<=b/\b<=s.length then some (.p (.str ((s.take b.toNat).drop a.toNat))) else none
 | _,_,_=>none
theorem jZ {d s lo hi} (h:lo.isInt=none):Hd d s lo hi=none:=by
 unfold Hd;grind [V.isInt]
theorem jY {d s lo hi} (h:hi.isInt=none):Hd d s lo hi=none:=by
 unfold Hd;grind [V.isInt]
section
variable {P : Program} {H : List Obj} {t : TypeId} {fr : List V}
theorem Re {s:List UInt8} {k k' a b} :(match P.underlying t with | some .string=>(if 0<=a/\a<=b/\b<=(s.length:Int) then some (V.p (.str ((s.take b.toNat).drop a.toNat))) else none) | _=>none)=Hd (P.underlying t) s (.p (.int k a)) (.p (.int k' b)):=by
 simp only [Hd]
 grind
@[go_sem] theorem kA {s lo hi} :WM P H t fr (.p (.str s)) (some lo) (some hi) none=Hd (P.underlying t) s (ev fr lo) (ev fr hi):=by
 simp only [WM,Qw]
 cases h:(ev fr lo).isInt with
 | none=>rw [jZ h];simp
 | some n =>
  cases h2:(ev fr hi).isInt with
  | none=>rw [jY h2];simp
  | some m =>
   grind [V.isInt_some,Re]
def IE (e:Option (Option Nat×Nat)) (xs:List PV) (hi mx:V):Option V:=match e,hi,mx with
 | some (none,S),.p (.int _ b),.p (.int _ m)=>if AX S xs=true/\0<=b/\b<=xs.length/\m=b then some (.p (.list true (xs.take b.toNat))) else none
 | _,_,_=>none
theorem jW {e xs hi mx} (h:hi.isInt=none):IE e xs hi mx=none:=by
 unfold IE;grind [V.isInt]
theorem jX {e xs hi mx} (h:mx.isInt=none):IE e xs hi mx=none:=by
 unfold IE;grind [V.isInt]
@[go_sem] theorem qJ {c xs hi mx} :WM P H t fr (.p (.list c xs)) none (some hi) (some mx)=IE (YK P t) xs (ev fr hi) (ev fr mx):=by
 simp only [WM,Qw]
 cases h:(ev fr hi).isInt with
 | none=>grind [jW]
 | some n =>
  cases h2:(ev fr mx).isInt with
  | none=>grind [jX]
  | some m =>
   obtain ⟨k,e⟩:=V.isInt_some h;obtain ⟨k2,e2⟩:=V.isInt_some h2;rw [e,e2];simp only [MM,Q4,IE]
   grind
@[go_sem] theorem Zga {α:Type} {f:α->PV} {l:List α} {S k k' b m} (h0:m=b) (h1:b=(l.length:Int)):IE (some (none,S)) (l.map f) (.p (.int k b)) (.p (.int k' m))=if AX S (l.map f)=true then some (.p (.list true (l.map f))) else none:=by
 subst h0;subst h1;simp only [IE,Zu]
 by_cases h:AX S (l.map f)=true
 ·simp_all [Kb]
 grind
end
@[go_sem low] theorem TQ {H:List Obj} {S b xs ys o n} :Ud H (some (S,b)) (.elems S xs) o n (some ys)=if xs.length=n/\Ak S ys=true/\(n+ys.length)*b<=140737488355328/\n+ys.length<=140737488355328 then some (.sl o 0 (n+ys.length) (n+ys.length),EB H o (.elems S (xs++ys))) else none:=by simp [Ud]
@[go_sem] theorem Zlm {H:List Obj} {n f a b f' a' b'} :E9 H n (.fn f a b) (.fn f' a' b')=((f'=f/\a'=a/\b'=b)/\refB n (.fn f a b)=true):=by simp [E9,jA]
@[go_sem] theorem ZkB {n f a b} :refB n (.fn f a b)=(Xb n a&&Xb n b):=by simp [refB]
@[go_sem] theorem Zmx {n x} :refB n (.p x)=true:=by simp [refB]
@[go_sem] theorem Zh6 {n o off} :refB n (.ptr o off)=decide (o<n):=by simp [refB]
@[go_sem] theorem ZkC {n o off l t} :refB n (.sl o off l t)=decide (o<n):=by simp [refB]
@[go_sem] theorem Zdw {n} :Xb n []=true:=by simp [Xb]
@[go_sem] theorem Zbu {n x l} :Xb n (x::l)=(refB n x&&Xb n l):=by simp [Xb]
theorem ACalls.useH {P g args H} {v:V} {H2:List Obj} {K:V->List Obj->Prop} (h:ACalls P g args H fun x H'=>x=v/\H'=H2) (k:K v H2):ACalls P g args H K :=
 h.mono (by grind)
theorem AY {α:Type} {f:α->PV} {S:Nat} (h: ∀x,(f x).cells.length=S) (l:List α):AX S (l.map f)=true:=by
 cases l with
 | nil=>rfl
 | cons x l=>simp [AX,h]
theorem LM {α:Type} [Inhabited α] {l:List α} {i n:Nat} (h:i<n) (hn:n<=l.length):nth (l.take n) i=nth l i:=by
 grind [Zi]
@[go_sem] theorem Zjz {k k'} {a b:Int} (h:b<=a):G7 false [.p (.int k a),.p (.int k' b)]=some (.int k a):=by simp [G7];omega
def Un (F:Option (Nat×Nat×PV)) (H:List Obj) (x y:V):Option (V×List Obj):=match F,x,y with
 | some (S,by',z),.p (.int .i64 n),.p (.int .i64 m)=>if n=m/\0<=n/\(by':Int)*n<=281474976710656/\n<=281474976710656 then some (.sl H.length 0 n.toNat n.toNat,H++ [.elems S (List.replicate n.toNat z)]) else none
 | _,_,_=>none
theorem Ax {P:Program} {t:TypeId} {fr:List V} {H:List Obj} {x y:Operand} {F} (h:LB P t=some F):Wj P (.makeSlice t x y) fr H=Un (some F) H (ev fr x) (ev fr y):=by
 unfold LB at h
 split at h
 ·rename_i e hu
  split at h
  ·rename_i S' z' b h1 h2 h3
   split at h
   ·rename_i hc;simp at h;subst h
    have h3':(P.info? e).map (fun x=>(x.bytes:Int))=some (b:Int):=by
     cases hi:P.info? e with
     | none=>grind
     | some i=>grind
    simp only [Wj,hu,h2,hc.1,if_true,Oq,h1,h3'];generalize ev fr x=X;generalize ev fr y=Y
    by_cases hX: ∃n,X= .p (.int .i64 n)
    ·obtain ⟨n,rfl⟩:=hX
     by_cases hY: ∃m,Y= .p (.int .i64 m)
     ·obtain ⟨m,rfl⟩:=hY;simp [Un,hc.2]
     ·have e1:Un (some (S',b,z')) H (.p (.int .i64 n)) Y=none:=by
       unfold Un;grind
      grind
    ·have e1:Un (some (S',b,z')) H X Y=none:=by
      unfold Un;grind
     grind
   ·cases h
  ·cases h
 ·cases h
@[go_sem] theorem Zcy {H:List Obj} {S b:Nat} {z n} (h0:0<=n) (h1:(b:Int)*n<=281474976710656) (h2:n<=281474976710656):Un (some (S,b,z)) H (.p (.int .i64 n)) (.p (.int .i64 n))=some (.sl H.length 0 n.toNat n.toNat,H++ [.elems S (List.replicate n.toNat z)]):=by
 simp_all [Un]
theorem Zbk (x y:Nat) (hx:x<9223372036854775808) (hy:y<9223372036854775808):IntKind.i64.wrap ((BitVec.ofInt 64 (x:Int)|||BitVec.ofInt 64 (y:Int)).toNat:Int)=((x|||y:Nat):Int):=by
 have e:(BitVec.ofInt 64 (x:Int)|||BitVec.ofInt 64 (y:Int)).toNat=x|||y:=by
  grind
 have h:x|||y<2^63:=Qo Za Za
 grind [IntWalk.i64_in]
theorem jJ (x y:Nat) (hx:x<9223372036854775808) (hy:y<9223372036854775808):IntKind.i64.wrap ((BitVec.ofInt 64 (x:Int)&&&BitVec.ofInt 64 (y:Int)).toNat:Int)=((x&&&y:Nat):Int):=by
 grind [Nat.and_le_left,IntWalk.i64_in]
@[go_sem high] theorem TA {P:Program} {t:TypeId} {x y:Nat} (hx:x<9223372036854775808) (hy:y<9223372036854775808):X1 P .or t (.p (.int .i64 (x:Int))) (.p (.int .i64 (y:Int)))=some (.int .i64 ((x|||y:Nat):Int)):=by
 rw [Om];exact Qm (fun q=>some (PV.int .i64 q)) (Zbk x y hx hy)
@[go_sem high] theorem P4 {P:Program} {t:TypeId} {x y:Nat} (hx:x<9223372036854775808) (hy:y<9223372036854775808):X1 P .and t (.p (.int .i64 (x:Int))) (.p (.int .i64 (y:Int)))=some (.int .i64 ((x&&&y:Nat):Int)):=by
 rw [Ty];exact Qm (fun q=>some (PV.int .i64 q)) (jJ x y hx hy)
def pw (k:Nat):Nat:=2^k
theorem DB (k:Nat):pw (k+1)=2*pw k:=by grind [pw]
theorem JK {k m:Nat} (h:k<=m):pw k<=pw m:=Yi Za h
theorem EI (k:Nat):0<pw k:=Nat.pow_pos Za
theorem EH : pw 62=4611686018427387904:=by decide
@[go_sem high] theorem Zb8 {P:Program} {t:TypeId} {k'} {a:Int} (h0:0<=a) (h1:a<=62):X1 P .shl t (.p (.int .i64 1)) (.p (.int k' a))=some (.int .i64 ((pw a.toNat:Nat):Int)):=by
 rw [TC h0]
 have h2:min a.toNat IntKind.i64.bits=a.toNat:=by show min a.toNat 64=a.toNat;omega
 rw [h2,Int.one_mul]
 have h3:((2:Int)^a.toNat)=((pw a.toNat:Nat):Int):=by simp [pw]
 rw [h3];have:=JK (show a.toNat<=62 by omega)
 grind [EH,IntWalk.i64_in]
attribute [go_sem] List.length_append List.map_append not_false_eq_true not_true_eq_false false_and and_false true_or or_true false_or or_false Classical.not_not Bool.false_eq_true Bool.and_false Bool.false_and
end Go.AM
namespace Go.AM
open Go.RowKit
theorem HD {P ds frJ H} {K K':List V->Prop} : ∀(l:List Oper) (i:Nat) (vals:List V),(∀ys,ys.length=vals.length+l.length->K ys->K' ys)->hd P ds frJ H K i l vals->hd P ds frJ H K' i l vals
 | [],i,vals,hk,h=>hk vals rfl h
 | o::l,i,vals,hk,h=>by
  have ih: ∀y,hd P ds frJ H K (i+1) l (vals++ [y])->hd P ds frJ H K' (i+1) l (vals++ [y]):=fun y=>HD l (i+1) (vals++ [y]) fun ys hy=>hk ys (by simp at hy ⊢;omega);simp only [hd] at h ⊢
  split at h
  ·obtain ⟨y,h1,h2⟩:=h;exact ⟨y,h1,ih y h2⟩
  ·unfold Xp at h ⊢
   split at h
   ·exact ⟨fun e=>by obtain ⟨y,h1,h2⟩:=h.1 e;exact ⟨y,h1,ih y h2⟩,fun e=>ih _ (h.2 e)⟩
   ·exact ih _ h
   ·exact h.elim
def hall : List (Option Nat)->List V->List V->List V
 | some d::ds,v::vals,fr=>hall ds vals (pt fr d v)
 | none::ds,_::vals,fr=>hall ds vals fr
 | _,_,fr=>fr
theorem AD (d:Option Nat) (v:V) (ds:List (Option Nat)) (vals:List V): ∀(l:List Nat) (fr:List V),ZF (d::ds) (v::vals) (l.map (· +1)) fr=ZF ds vals l fr
 | [],fr=>rfl
 | j::l,fr=>by
  simp only [ZN,ZF,Dr]
  split<;>exact AD d v ds vals l _
theorem Ej : ∀(ds:List (Option Nat)) (vals:List V) (fr:List V),vals.length=ds.length->ZF ds vals (List.range ds.length) fr=hall ds vals fr
 | [],[],fr,_=>rfl
 | d::ds,v::vals,fr,h=>by
  have ih:=fun fr=>Ej ds vals fr (by simpa using h);rw [Zz,List.range_succ_eq_map]
  cases d with
  | none=>simp only [ZF,Ds,hall];rw [AD];exact ih fr
  | some d=>simp only [ZF,Ds,hall];rw [AD];exact ih _
 | [],_::_,_,h=>by simp at h
 | _::_,[],_,h=>by simp at h
theorem DT {P:Program} {id:Nat} {l:List Oper} {fr:List V} {H:List Obj} {Q:Exit->List V->List Obj->Prop} {t} (hm:P.follows .mixedOrders=true) (hB:Va (List.toArray l) l.length=true)
  (h:hd P (l.map (·.dst)) (Z3 (l.map (·.dst)) fr) H (Zv (fun vals=>Q .normal (hall (l.map (·.dst)) vals (Z3 (l.map (·.dst)) fr)) H) ⟨⟩) 0 l []) :
  AWP P (.region id (Zv (List.toArray l) t) true) fr H Q:=by
 refine FN (ops:=List.toArray l) l.length hm hB ?_;have e0:(List.toArray l).toList=l:=rfl;rw [e0];have e1:(l.map (fun x=>Oper.dst x)).take l.length=l.map (·.dst):=Kb Zb;have e2:l.take l.length=l:=UB
 have e3:l.drop l.length= []:=Zb
 rw [e1,e2,e3];refine HD _ _ _ (fun ys hy hk=> ?_) h;have e4:=Ej (l.map (·.dst)) ys (Z3 (l.map (·.dst)) fr) (by grind);rw [Zu] at e4;simp only [Yz];rw [e4];exact hk
def OQ (A:V->Prop) (B:V->Prop):Prop:= ∃y,A y/\B y
section
variable {P : Program} {ds : List (Option Nat)} {frJ : List V} {H : List Obj} {K : List V -> Prop} {i : Nat} {r : List Oper} {vals : List V} {d : Option Nat} {op : Op} {t : TypeId} {ps : String} {af : Array Edge}
@[go_sem ↓] theorem Zl9 : hd P ds frJ H K i [] vals=K vals:=Zw rfl rfl
@[go_sem ↓] theorem Zkc : hd P ds frJ H K i (⟨d,op,t,ps,af,none⟩::r) vals=OQ (fun y=>ZB P ⟨d,op,t,ps,af,none⟩ (MO (ZF ds vals (ZO i ⟨d,op,t,ps,af,none⟩) frJ)) H (Zv (fun x H'=>x=y/\H'=H) ⟨⟩)) (Zv (fun y=>hd P ds frJ H K (i+1) r (vals++ [y])) ⟨⟩):=Zw rfl rfl
@[go_sem ↓, go_sem] theorem ZlY {v:V} {B:V->Prop} {t} :OQ (fun y=>v=y) (Zv B t)=B v:=by simp [OQ,Zv]
@[go_sem] theorem Zc3 {l:List Edge} {g} :ZO i ⟨d,op,t,ps,List.toArray l,g⟩=(l.filter fun e=>Region.binds .any e&&decide (e.on<i)).map (·.on):=Zw rfl rfl
@[go_sem] theorem tX {on} :Region.binds .any ⟨on,.data⟩=true:=Zw rfl rfl
@[go_sem] theorem qX {on} :Region.binds .any ⟨on,.phase⟩=true:=Zw rfl rfl
@[go_sem] theorem qW {on} :Region.binds .any ⟨on,.chain⟩=true:=Zw rfl rfl
@[go_sem] theorem tY {on k} :Region.binds .any ⟨on,.textOnly k⟩=false:=Zw rfl rfl
@[go_sem] theorem Zgj {on k} :Region.binds .any ⟨on,.gcOnly k⟩=false:=Zw rfl rfl
def O3 (ds:List (Option Nat)) (vals:List V) (l:List Nat) (fr:List V) (a:Option (Option Nat)) (v:Option V):List V:=match a,v with
 | some (some d),some v=>ZF ds vals l (pt fr d v)
 | _,_=>ZF ds vals l fr
@[go_sem] theorem ZgP {fr} :ZF ds vals [] fr=fr:=Zw rfl rfl
@[go_sem] theorem Zdd {j l fr} :ZF ds vals (j::l) fr=O3 ds vals l fr ds[j]? vals[j]? :=by rfl
@[go_sem] theorem vJ {l fr d v} :O3 ds vals l fr (some (some d)) (some v)=ZF ds vals l (pt fr d v):=Zw rfl rfl
@[go_sem] theorem Zc7 {d ds v vals fr} :hall (some d::ds) (v::vals) fr=hall ds vals (pt fr d v):=Zw rfl rfl
@[go_sem] theorem ZgJ {fr} :hall [] [] fr=fr:=Zw rfl rfl
@[go_sem] theorem Zdc {fr} :Z3 [] fr=fr:=Zw rfl rfl
@[go_sem] theorem vI {d l fr} :Z3 (some d::l) fr=Z3 l (pt fr d .junk):=Zw rfl rfl
theorem Zo {f azs} {z:PV} {B:V->Prop} {t} (h:ACalls P f azs [] fun x H'=>x= .p z/\H'= []) (k:B (.p z)) (ha:Xb 0 azs=true:=by rfl) :
  OQ (fun y=>ACalls P f azs H (Zv (Zv (fun x H'=>x=y/\H'=H) ⟨⟩) ⟨⟩)) (Zv B t) :=
 ⟨.p z,h.use ⟨rfl,rfl⟩ ha,k⟩
end
section
variable {P : Program} {fr : List V} {H : List Obj} {k : V -> List Obj -> Prop} {d : Option Nat} {t : TypeId} {ps : String} {af : Array Edge} {g : Option (Nat × Bool)}
@[go_sem ↓] theorem tI {u n l} :ZB P ⟨d,.buildSlice u n (List.toArray l),t,ps,af,g⟩ fr H k=AJ ((Ix (UI P u) H n (l.map fun x=>(x.1,ev fr x.2))).map .p) (Zv (fun v=>k v H) ⟨⟩):=by
 grind [ZB,AJ,Zv]
@[go_sem] theorem sQ {S n l} :Ix (some S) H n l=if n=l.length/\n*S<=16777216/\0<S then (QK H S 0 l).map (.list false) else none:=Zw rfl rfl
@[go_sem ↓] theorem qN {x} :ZB P ⟨d,.move x,t,ps,af,g⟩ fr H k=Zx P ⟨d,.move x,t,ps,af,g⟩ fr H k:=rfl
@[go_sem ↓] theorem iT {x} :ZB P ⟨d,.assign x,t,ps,af,g⟩ fr H k=Zx P ⟨d,.assign x,t,ps,af,g⟩ fr H k:=rfl
@[go_sem ↓] theorem qO {x y z} :ZB P ⟨d,.pick x y z,t,ps,af,g⟩ fr H k=Zx P ⟨d,.pick x y z,t,ps,af,g⟩ fr H k:=rfl
@[go_sem ↓] theorem kB {x} :ZB P ⟨d,.alloc x,t,ps,af,g⟩ fr H k=Zx P ⟨d,.alloc x,t,ps,af,g⟩ fr H k:=rfl
@[go_sem ↓] theorem tG {x y} :ZB P ⟨d,.box x y,t,ps,af,g⟩ fr H k=Zx P ⟨d,.box x y,t,ps,af,g⟩ fr H k:=rfl
@[go_sem ↓] theorem kD {x y} :ZB P ⟨d,.build x y,t,ps,af,g⟩ fr H k=Zx P ⟨d,.build x y,t,ps,af,g⟩ fr H k:=rfl
@[go_sem ↓] theorem qM {x y} :ZB P ⟨d,.load x y,t,ps,af,g⟩ fr H k=Zx P ⟨d,.load x y,t,ps,af,g⟩ fr H k:=rfl
@[go_sem ↓] theorem kH {x y z} :ZB P ⟨d,.store x y z,t,ps,af,g⟩ fr H k=Zx P ⟨d,.store x y z,t,ps,af,g⟩ fr H k:=rfl
@[go_sem ↓] theorem Td {x} :ZB P ⟨d,.nilCheck x,t,ps,af,g⟩ fr H k=Zx P ⟨d,.nilCheck x,t,ps,af,g⟩ fr H k:=rfl
@[go_sem ↓] theorem kC {x y z u v} :ZB P ⟨d,.binOp x y z u v,t,ps,af,g⟩ fr H k=Zx P ⟨d,.binOp x y z u v,t,ps,af,g⟩ fr H k:=rfl
@[go_sem ↓] theorem qP {x y z} :ZB P ⟨d,.unOp x y z,t,ps,af,g⟩ fr H k=Zx P ⟨d,.unOp x y z,t,ps,af,g⟩ fr H k:=rfl
@[go_sem ↓] theorem TV {x y z} :ZB P ⟨d,.convert x y z,t,ps,af,g⟩ fr H k=Zx P ⟨d,.convert x y z,t,ps,af,g⟩ fr H k:=rfl
@[go_sem ↓] theorem Tc {x y z} :ZB P ⟨d,.makeFunc x y z,t,ps,af,g⟩ fr H k=Zx P ⟨d,.makeFunc x y z,t,ps,af,g⟩ fr H k:=rfl
@[go_sem ↓] theorem Rh {x y z} :ZB P ⟨d,.makeSlice x y z,t,ps,af,g⟩ fr H k=Zx P ⟨d,.makeSlice x y z,t,ps,af,g⟩ fr H k:=rfl
@[go_sem ↓] theorem kG {x y z u v} :ZB P ⟨d,.slice x y z u v,t,ps,af,g⟩ fr H k=Zx P ⟨d,.slice x y z u v,t,ps,af,g⟩ fr H k:=rfl
@[go_sem ↓] theorem Rf {x y z} :ZB P ⟨d,.fieldAddr x y z,t,ps,af,g⟩ fr H k=Zx P ⟨d,.fieldAddr x y z,t,ps,af,g⟩ fr H k:=rfl
@[go_sem ↓] theorem kE {x y z} :ZB P ⟨d,.field x y z,t,ps,af,g⟩ fr H k=Zx P ⟨d,.field x y z,t,ps,af,g⟩ fr H k:=rfl
@[go_sem ↓] theorem Rg {x y z} :ZB P ⟨d,.indexAddr x y z,t,ps,af,g⟩ fr H k=Zx P ⟨d,.indexAddr x y z,t,ps,af,g⟩ fr H k:=rfl
@[go_sem ↓] theorem kF {x y z} :ZB P ⟨d,.index x y z,t,ps,af,g⟩ fr H k=Zx P ⟨d,.index x y z,t,ps,af,g⟩ fr H k:=rfl
@[go_sem ↓] theorem TW {x y} :ZB P ⟨d,.extract x y,t,ps,af,g⟩ fr H k=Zx P ⟨d,.extract x y,t,ps,af,g⟩ fr H k:=rfl
@[go_sem ↓] theorem qL {x y z} :ZB P ⟨d,.call ⟨.value x,y,z⟩,t,ps,af,g⟩ fr H k=Zx P ⟨d,.call ⟨.value x,y,z⟩,t,ps,af,g⟩ fr H k:=rfl
@[go_sem ↓] theorem tH {y z} :ZB P ⟨d,.call ⟨.builtin .len,y,z⟩,t,ps,af,g⟩ fr H k=Zx P ⟨d,.call ⟨.builtin .len,y,z⟩,t,ps,af,g⟩ fr H k:=rfl
@[go_sem ↓] theorem tJ {y z} :ZB P ⟨d,.call ⟨.builtin .max,y,z⟩,t,ps,af,g⟩ fr H k=Zx P ⟨d,.call ⟨.builtin .max,y,z⟩,t,ps,af,g⟩ fr H k:=rfl
@[go_sem ↓] theorem tK {y z} :ZB P ⟨d,.call ⟨.builtin .min,y,z⟩,t,ps,af,g⟩ fr H k=Zx P ⟨d,.call ⟨.builtin .min,y,z⟩,t,ps,af,g⟩ fr H k:=rfl
def OP (P:Program) (H:List Obj) (t u:TypeId) (x y:V) (k:V->List Obj->Prop):Prop:= ∃S zs,Wy P H t u x y=some (.sl H.length 0 zs.length zs.length,H++ [.elems S zs])/\k (.p (.list false zs)) H
@[go_sem ↓] theorem iS {x y u u2} :ZB P ⟨d,.call ⟨.builtin .append,#[x,y],#[u,u2]⟩,t,ps,af,g⟩ fr H k=OP P H u u2 (ev fr x) (ev fr y) (Zv k ⟨⟩):=rfl
def Rc (F:Option (Nat×Nat)) (xs:List PV) (ys:Option (List PV)):Option PV:=match F,ys with
 | some (S,by'),some ys=>if Ak S ys=true/\Ak S xs=true/\(xs= []\/0<ys.length)/\(xs.length+ys.length)*by'<=140737488355328/\xs.length+ys.length<=140737488355328 then some (.list false (xs++ys)) else none
 | _,_=>none
@[go_sem] theorem ZcI {α:Type} {S b} {f:α->PV} {l:List α} {x:PV} (hb:(l.length+1)*b<=140737488355328) (hb2:l.length+1<=140737488355328):Rc (some (S,b)) (l.map f) (some [x])=if Ak S [x]=true/\Ak S (l.map f)=true then some (.list false (l.map f++ [x])) else none:=by
 grind [Rc]
theorem Nl {u u2:TypeId} {F} {xs:List PV} {y:V} (hF:Qz P u=some F) {tt} :OP P H u u2 (.p (.list true xs)) y (Zv k tt)=AJ ((Rc (some F) xs (YA (P.underlying u2) H y)).map .p) (Zv (fun v=>k v H) ⟨⟩):=by
 obtain ⟨S,by'⟩:=F;obtain ⟨e,z,h1,h2,h3,h4,h6⟩:=DQ hF;have e1:YA (P.underlying u2) H y=C7 P H u2 y:=Zw rfl rfl;rw [e1];unfold OP Zv
 cases h5:C7 P H u2 y with
 | none =>
  grind [Wy,Rc,AJ]
 | some ys =>
  rw [G0 h1 h2 h3 h4 h5 h6];simp only [Rc]
  by_cases hc:Ak S ys=true
  ·rw [if_pos hc];simp only [hc,true_and]
   by_cases hd:Ak S xs=true/\(xs= []\/0<ys.length)/\(xs.length+ys.length)*by'<=140737488355328/\xs.length+ys.length<=140737488355328
   ·rw [if_pos hd,if_pos hd];simp only [KT,AJ,eq_iff_iff]
    constructor
    ·simp_all
    ·intro hk;exact ⟨S,xs++ys,Zb,hk⟩
   simp_all [if_neg,AJ]
  ·simp [hc,AJ]
theorem Hf {o fr' H'} (h:fr=fr') (h2:H=H'):ZB P o fr H k=ZB P o fr' H' k:=by rw [h,h2]
end
attribute [congr] Hf
attribute [go_sem] List.filter_cons List.filter_nil
end Go.AM
namespace Go.AM
open Go.RowKit
mutual
/-- no memory in it -/
def Lh : PV->Bool
 | .list _ xs=>xs.isEmpty
 | .agg cs=>CS cs
 | _=>true
def CS : List PV->Bool
 | []=>true
 | x::l=>Lh x&&CS l
end
theorem KG : ∀ {l:List PV},CS l=true-> ∀(j:Nat) (x:PV),l[j]? =some x->Lh x=true
 | [],_,j,x,h=>by simp at h
 | y::l,hh,j,x,h=>by
  simp [CS] at hh
  cases j with
  | zero=>simp at h;subst h;exact hh.1
  | succ j=>exact KG hh.2 j x (by simpa using h)
theorem RP.anywhere {X X':Nat->Prop} {w w' x v} (h:RP X w x v) (hf:Lh x=true):RP X' w' x v:=by
 induction h with
 | int k n=>exact .int k n
 | bool b=>exact .bool b
 | str s=>exact .str s
 | nilp=>exact .nilp
 | nili=>exact .nili
 | nilf=>exact .nilf
 | nilm=>exact .nilm
 | fn f=>exact .fn f
 | nils cl=>exact .nils cl
 | emp cl a cap hc hm ha=>exact .emp cl a cap hc hm ha
 | list cl xs b off cap S u hX hb hc hm hcl hS hu hr ih =>
  have:xs= []:=by grind [Lh]
  subst this;exact .emp cl _ cap (fun h=>by grind) hm (fun _ x hx=>by grind)
 | agg cs a hs _ ih=>exact .agg cs a hs fun j c hj=>ih j c hj (KG (by grind [Lh]) j c hj)
def vw (H:List Obj):V->Option V
 | .p x=>some (.p x)
 | .fn f [] []=>some (.fn f [] [])
 | .sl o off len tot=>match oat H o with
  | .elems _ xs=>if xs.length=tot/\off+len<=tot then some (.p (.list false ((xs.take (off+len)).drop off))) else none
  | _=>none
 | _=>none
def vws (H:List Obj):List V->Option (List V)
 | []=>some []
 | x::l=>match vw H x,vws H l with | some y,some ys=>some (y::ys) | _,_=>none
abbrev JT : Nat->Prop:=fun _=>False
theorem BD {b:Nat} : ¬Own JT [] b:=by simp [Own]
theorem rZ {F H ι w x v y} (hr:Rel F H ι w) (h:RV F H ι w x v) (hy:vw H x=some y):RV JT [] [] w y v:=by
 unfold vw at hy
 split at hy
 ·simp at hy;subst hy
  cases h with | p _ _ h=>exact .p _ _ (h.weaker fun b hb=>absurd hb BD)
 ·simp at hy;subst hy;generalize v=u at h
  cases h with
  | fn _ _ _ a e hs ht _ _=>exact .fn _ [] [] a e hs ht (fun j c hj=>by simp at hj) (fun j c hj=>by simp at hj)
 ·rename_i o off len tot
  split at hy
  ·rename_i S xs ho
   split at hy
   ·rename_i hc;simp at hy;subst hy;exact .p _ _ (Kq _ (fun b _ hb=>BD hb) (fun b _ hs=>⟨BD,hs,rfl⟩) hr (Z4 ho Zb) hc.1 hc.2 h)
   ·cases hy
  ·cases hy
 ·cases hy
theorem Ij {H} : ∀ {l l':List V},vws H l=some l'->l'.length=l.length/\ ∀(j:Nat) (y:V),l'[j]? =some y-> ∃x,l[j]? =some x/\vw H x=some y
 | [],l',h=>by simp [vws] at h;grind
 | x::l,l',h=>by
  simp only [vws] at h
  split at h
  ·rename_i y ys h1 h2;simp at h;subst h;obtain ⟨e,hg⟩:=Ij h2;refine ⟨by simp [e],fun j z hj=> ?_⟩
   cases j with
   | zero=>simp at hj;subst hj;exact ⟨x,Zb,h1⟩
   | succ j=>obtain ⟨q,q1,q2⟩:=hg j z (by simpa using hj);exact ⟨q,by simpa using q1,q2⟩
  ·cases h
theorem Good.lift {F H ι w H1 ι1 w'} (hr:Rel F H ι w) (g:Good JT [] [] w H1 ι1 w') (h1: ∀(o:Nat) (ob:Obj),H1[o]? =some ob-> ∃S xs,ob= .elems S xs/\CS xs=true):Good (Own F ι) [] [] w H1 ι1 w':=by
 have hnew: ∀b,some b∈ι1-> ¬b<w.heap.size:=fun b hb hlt=>g.own b hlt Zb hb
 have hold: ∀b,Own F ι b->b<w.heap.size:=fun b hb=>by
  rcases hb with hb | hb
  ·exact hr.fin b hb
  ·obtain ⟨i,hi⟩:=XD.1 hb;exact (hr.avo i b hi).2
 refine Good.up hr.env.fresh ⟨⟨g.rel.len,fun b hb=>by have:=hold b hb;have:=g.size;omega,g.rel.inj,fun i b hi=> ?_,fun o cs ho=> ?_,fun o S xs ho=> ?_,fun o es ho=>(by grind),fun o T E r bs ho=>(by grind)⟩,g.os,g.tape,g.output,g.shape,g.size,g.keep,g.own,g.hx⟩
 ·refine ⟨fun hb=>hnew b (XE hi) (hold b hb),(g.rel.avo i b hi).2⟩
 ·grind
 ·rcases g.rel.elm o S xs ho with e | ⟨b,c,t,cap,e1,e2,e3,e4,e5,e6,e7⟩
  ·exact .inl e
  ·refine .inr ⟨b,c,t,cap,e1,e2,e3,e4,e5,e6,fun i x j y hi hj=> ?_⟩;obtain ⟨S',xs',e,hf⟩:=h1 o _ ho;simp at e;obtain ⟨rfl,rfl⟩:=e;have hx:=KG hf i x hi;refine (e7 i x j y hi hj).anywhere ?_
   cases x<;>simp only [PV.cells] at hj
   case agg cs=>grind [KG,Lh]
   all_goals (cases j with
    | zero=>simp at hj;subst hj;exact hx
    | succ j=>simp at hj)
theorem BK {w:World} (he:Env JT [] w):Rel JT [] [] w:=⟨⟨rfl,fun b hb=>hb.elim,fun i j b hi=>by simp at hi,fun i b hi=>by simp at hi,fun o cs ho=>by simp at ho,fun o S xs ho=>by simp at ho,fun o es ho=>by simp at ho,fun o T E r bs ho=>by simp at ho⟩,he⟩
theorem ACalls.view {P g args args'} {y:PV} {H:List Obj} {K:V->List Obj->Prop} (h:ACalls P g args' [] fun x H'=>x= .p y/\H'= []) (hv:vws H args=some args') (hy:Lh y=true) (k:K (.p y) H):ACalls P g args H K:=by
 refine ⟨h.1,fun F ι w vs hr hvs=> ?_⟩;obtain ⟨e,hg⟩:=Ij hv;refine (h.2 JT [] w vs (BK hr.env.noth) ⟨by rw [hvs.1,e],fun j c hj=> ?_⟩).mono ?_
 ·obtain ⟨x,h1,h2⟩:=hg j c hj;exact rZ hr (hvs.2 j x h1) h2
 ·rintro e w' ⟨x,H',ι',v,rfl,⟨rfl,rfl⟩,gd,rv⟩;have g2:=(gd.lift hr (fun o ob ho=>by simp at ho)).behind hr;have hι:ι'= []:=Xe gd.rel.len;subst hι;simp only [Zk,We] at g2
  cases rv with | p _ _ rp =>
  exact ⟨_,H,ι,v,rfl,k,g2,.p _ _ (rp.anywhere hy)⟩
theorem ACalls.viewF {P g args args'} {S n:Nat} {xs:List PV} {H:List Obj} {K:V->List Obj->Prop} (h:ACalls P g args' [] fun x H'=>x= .sl 0 0 n n/\H'= [.elems S xs]) (hv:vws H args=some args') (hy:CS xs=true) (k:K (.sl H.length 0 n n) (H++ [.elems S xs])):ACalls P g args H K:=by
 refine ⟨h.1,fun F ι w vs hr hvs=> ?_⟩;obtain ⟨e,hg⟩:=Ij hv;refine (h.2 JT [] w vs (BK hr.env.noth) ⟨by rw [hvs.1,e],fun j c hj=> ?_⟩).mono ?_
 ·obtain ⟨x,h1,h2⟩:=hg j c hj;exact rZ hr (hvs.2 j x h1) h2
 ·rintro e w' ⟨x,H',ι',v,rfl,⟨rfl,rfl⟩,gd,rv⟩
  have gl:=gd.lift hr (fun o ob ho=>by
   grind)
  have g2:=gl.behind hr
  have rv2:RV (Own F ι) [.elems S xs] ι' w' (.sl 0 0 n n) v:=by
   cases rv with
   | slNil _ S a h3 h2=>exact .slNil _ S a h3 h2
   | sl _ _ _ _ b S cap t xs c h1 h2 ht hw hcap hl hlen hm=>exact .sl _ _ _ _ b S cap t xs c h1 h2 ht hw hcap hl hlen hm
   | slD _ _ _ _ _ h1=>simp at h1
   | slS _ _ _ _ _ S xs h1 hne=>exact .slS _ _ _ _ _ S xs h1 hne
   | slC _ _ _ _ _ _ h1=>simp at h1
  exact ⟨_,_,_,v,rfl,by simpa [shV,shO] using k,g2,by simpa [shV] using rv2.sh hr.len⟩
def rd1 (H:List Obj):V->Option PV
 | .p x=>some x
 | .sl o off len tot=>match oat H o with
  | .elems _ xs=>if xs.length=tot/\off+len<=tot then some (.list false ((xs.take (off+len)).drop off)) else none
  | _=>none
 | _=>none
def rds (H:List Obj):List V->Option (List PV)
 | []=>some []
 | x::l=>match rd1 H x,rds H l with | some y,some ys=>some (y::ys) | _,_=>none
def rd (H:List Obj):V->Option PV
 | .agg cs=>(rds H cs).map .agg
 | x=>rd1 H x
theorem fW {F ι H w x v y} (hr:Rel F H ι w) (h:RV F H ι w x v) (hy:rd1 H x=some y):RP (Own F []) w y v:=by
 have hk:Keeps (Own F ι) w (Own F []) w:=fun b hb hs=>⟨fun h=>hb (.inl (by rcases h with h | h;exact h;simp at h)),hs,rfl⟩;unfold rd1 at hy
 split at hy
 ·simp at hy;subst hy
  cases h with | p _ _ h=>exact h.ext hk
 ·rename_i o off len tot
  split at hy
  ·rename_i S xs ho
   split at hy
   ·rename_i hc;simp at hy;subst hy
    exact Kq (Own F []) (fun b hb h=>by
     rcases h with h | h
     ·exact (hr.avo o b hb).1 h
     ·simp at h) hk hr (Z4 ho Zb) hc.1 hc.2 h
   ·cases hy
  ·cases hy
 ·cases hy
theorem Pw {H} : ∀ {l:List V} {l':List PV},rds H l=some l'->l'.length=l.length/\ ∀(j:Nat) (y:PV),l'[j]? =some y-> ∃x,l[j]? =some x/\rd1 H x=some y
 | [],l',h=>by simp [rds] at h;grind
 | x::l,l',h=>by
  simp only [rds] at h
  split at h
  ·rename_i y ys h1 h2;simp at h;subst h;obtain ⟨e,hg⟩:=Pw h2;refine ⟨by simp [e],fun j z hj=> ?_⟩
   cases j with
   | zero=>simp at hj;subst hj;exact ⟨x,Zb,h1⟩
   | succ j=>obtain ⟨q,q1,q2⟩:=hg j z (by simpa using hj);exact ⟨q,by simpa using q1,q2⟩
  ·cases h
theorem ACalls.read {P g args} {y:PV} (h:ACalls P g args [] fun x H'=>rd H' x=some y):ACalls P g args [] fun x H'=>x= .p y/\H'= []:=by
 refine ⟨h.1,fun F ι w vs hr hv=> ?_⟩;have hι:ι= []:=Xe hr.len;subst hι;refine (h.2 F [] w vs hr hv).mono ?_;rintro e w' ⟨x,H',ι',v,rfl,hy,gd,rv⟩;refine ⟨_,[],[],v,rfl,⟨rfl,rfl⟩,gd.forget hr.env hr.fin,.p _ _ ?_⟩;unfold rd at hy
 split at hy
 ·simp only [Zr] at hy;obtain ⟨ys,h1,rfl⟩:=hy;obtain ⟨e1,hg⟩:=Pw h1
  cases rv with
  | agg _ a hs hq =>
   exact .agg _ a (by rw [hs,e1]) fun j c hj=>by
    obtain ⟨x,q1,q2⟩:=hg j c hj;exact fW gd.rel (hq j x q1) q2
 ·exact fW gd.rel rv hy
@[go_sem] theorem Zjx {o off len tot r} :Qd (.sl o off len tot::r)=none:=Zw rfl rfl
attribute [go_sem] Option.map_none
end Go.AM
namespace Go.Proofs.YtiigdaohjanidaaGreatDoor.K
open Go Go.AM
def Ed (be:List (Int×Int)) (a b:Nat):Prop:= ∃p∈be,p.1=(a:Int)/\p.2=(b:Int)
inductive Ch (be:List (Int×Int)):Nat->Nat->Prop where
 | one {a b} (h:Ed be a b):Ch be a b
 | more {a b c} (h:Ch be a b) (k:Ed be b c):Ch be a c
def Val (n:Nat) (be:List (Int×Int)):Prop:= ∀p∈be,0<=p.1/\p.1<n/\0<=p.2/\p.2<n
def De (out:List Nat) (p:Int×Int):List Nat:=out.set p.2.toNat (nth out p.2.toNat|||nth out p.1.toNat|||pw p.1.toNat)
def Dz (out:List Nat) (be:List (Int×Int)):List Nat:=be.foldl De out
structure Snd (n:Nat) (be:List (Int×Int)) (out:List Nat):Prop where
 len:out.length=n
 lt: ∀b,b<n->nth out b<pw n
 snd: ∀a b,b<n->(nth out b).testBit a=true->Ch be a b
structure Clo (n:Nat) (be:List (Int×Int)) (out:List Nat):Prop extends Snd n be out where
 cmp: ∀a b,Ch be a b->(nth out b).testBit a=true
theorem Dy (l:List Nat) (i j v:Nat) (h:j<l.length):nth (l.set i v) j=if i=j then v else nth l j:=by
 grind [nth]
theorem Snd.zero (n be):Snd n be (List.replicate n 0):=by
 refine ⟨Zb,fun b hb=> ?_,fun a b hb h=> ?_⟩
 ·grind [Zi,EI]
 grind [Zi]
theorem JE (a b:Nat):(pw a).testBit b=decide (a=b):=by grind [pw]
theorem Snd.step {n be out} (hv:Val n be) (hs:Snd n be out) {p} (hp:p∈be):Snd n be (De out p):=by
 obtain ⟨h1,h2,h3,h4⟩:=hv p hp;refine ⟨by simp [De,hs.len],fun b hb=> ?_,fun a b hb h=> ?_⟩
 ·rw [De,Dy _ _ _ _ (by rw [hs.len];exact hb)]
  split
  ·have e1:=hs.lt p.2.toNat Za;have e2:=hs.lt p.1.toNat Za
   have e3:pw p.1.toNat<pw n:=by
    have:=DB p.1.toNat;have h5:pw (p.1.toNat+1)<=pw n:=JK Za;omega
   exact Qo (Qo e1 e2) e3
  ·exact hs.lt b hb
 ·rw [De,Dy _ _ _ _ (by rw [hs.len];exact hb)] at h
  split at h
  ·rename_i hb2;have hE:Ed be p.1.toNat b:=⟨p,hp,Za,Za⟩;simp only [KU,Wd] at h;rcases h with (h | h) | h
   ·exact hs.snd a b hb (by grind)
   ·exact (hs.snd a _ Za h).more hE
   ·rw [JE] at h;simp at h;subst h;exact .one hE
  ·exact hs.snd a b hb h
theorem Snd.rnd {n be out} (hv:Val n be) (hs:Snd n be out): ∀(l:List (Int×Int)),(∀p∈l,p∈be)->Snd n be (Dz out l):=by
 intro l
 induction l generalizing out with
 | nil=>intro _;exact hs
 | cons p l ih=>intro h;exact ih (hs.step hv (h p Zb)) fun q hq=>h q (by simp [hq])
theorem rN (x y:Nat):x<=x|||y:=Nat.left_le_or
def tot (l:List Nat):Nat:=l.foldr (· + ·) 0
theorem PM : ∀(l:List Nat) (i v:Nat),i<l.length->tot (l.set i v)+nth l i=tot l+v
 | [],i,v,h=>by simp at h
 | x::l,0,v,h=>by simp [tot,nth];omega
 | x::l,i+1,v,h=>by
  have:=PM l i v (by simpa using h);simp only [X2,tot,List.foldr_cons,nth,List.getD_cons_succ] at this ⊢;omega
theorem iA : ∀(l:List Nat) (m:Nat),(∀i,i<l.length->nth l i<m)->tot l<=l.length*m
 | [],m,h=>by simp [tot]
 | x::l,m,h=>by
  have h0:=h 0 Zb
  have:=iA l m fun i hi=>by have:=h (i+1) (by grind);grind [nth]
  grind [tot,YN,nth]
theorem OJ (out:List Nat) (p:Int×Int) (h:p.2.toNat<out.length):tot out<=tot (De out p)/\(tot (De out p)=tot out->De out p=out):=by
 have e:=PM out p.2.toNat (nth out p.2.toNat|||nth out p.1.toNat|||pw p.1.toNat) h;have h1:nth out p.2.toNat<=nth out p.2.toNat|||nth out p.1.toNat|||pw p.1.toNat:=KW (rN _ _) (rN _ _);refine ⟨by rw [De];omega,fun he=> ?_⟩;rw [De] at he ⊢
 have:nth out p.2.toNat|||nth out p.1.toNat|||pw p.1.toNat=nth out p.2.toNat:=Za
 simp_all [Zi]
theorem NL (out l m):Dz out (l++m)=Dz (Dz out l) m:=by grind [Dz]
theorem BE {n be} (hv:Val n be): ∀(l:List (Int×Int)) (out:List Nat),(∀p∈l,p∈be)->Snd n be out->tot out<=tot (Dz out l)/\(tot (Dz out l)=tot out->Dz out l=out/\ ∀p∈l,De out p=out)
 | [],out,_,_=>⟨ZL _,fun _=>⟨rfl,fun p hp=>by simp at hp⟩⟩
 | p::l,out,hl,hs=>by
  obtain ⟨h1,h2,h3,h4⟩:=hv p (hl p Zb);have c:=OJ out p (by rw [hs.len];omega);have r:=BE hv l (De out p) (fun q hq=>hl q (by simp [hq])) (hs.step hv (hl p Zb));refine ⟨KW c.1 r.1,fun e=> ?_⟩;have e:tot (Dz (De out p) l)=tot out:=e
  have e1:tot (De out p)=tot out:=Za
  have e2:=c.2 e1
  have e3:tot (Dz (De out p) l)=tot (De out p):=Za
  obtain ⟨e4,e5⟩:=r.2 e3;rw [e2] at e4 e5;refine ⟨by grind [Dz],fun q hq=> ?_⟩
  grind
theorem Snd.clo {n be out} (hv:Val n be) (hs:Snd n be out) (h:tot (Dz out be)=tot out):Clo n be out:=by
 have hc:=((BE hv be out (fun _ h=>h) hs).2 h).2
 have key: ∀p∈be,∀a,(a=p.1.toNat\/(nth out p.1.toNat).testBit a=true)->(nth out p.2.toNat).testBit a=true:=fun p hp a ha=>by
  obtain ⟨h1,h2,h3,h4⟩:=hv p hp;have e:=hc p hp
  have e2:nth (De out p) p.2.toNat=nth out p.2.toNat:=by rw [e]
  rw [De,Dy _ _ _ _ (by rw [hs.len];omega)] at e2;simp only [if_true] at e2;rw [<- e2];simp only [KU,Wd,JE,Zl]
  grind
 refine ⟨hs,fun a b hab=> ?_⟩
 induction hab with
 | one h =>
  obtain ⟨p,hp,e1,e2⟩:=h;have:=key p hp p.1.toNat (.inl rfl)
  grind
 | more _ h ih =>
  obtain ⟨p,hp,e1,e2⟩:=h;have:=key p hp _ (.inr (by rw [e1];exact ih))
  grind
theorem Clo.uniq {n be out out'} (hv:Val n be) (h:Clo n be out) (h':Clo n be out'):out=out':=by
 apply Qp (by rw [h.len,h'.len]);intro b h1 h2;rw [<- Zi h1,<- Zi h2];apply Bo;intro a;rw [Wu];rw [h.len] at h1;exact ⟨fun e=>h'.cmp a b (h.snd a b h1 e),fun e=>h.cmp a b (h'.snd a b h1 e)⟩
theorem Snd.bound {n be out} (hs:Snd n be out):tot out<=n*pw n:=by
 have:=iA out (pw n) fun i hi=>hs.lt i (by rw [<- hs.len];exact hi);rwa [hs.len] at this
theorem aK {n be} (hv:Val n be): ∀(k:Nat) (out:List Nat),Snd n be out->n*pw n-tot out<k-> ∃out',Clo n be out'
 | 0,out,_,h=>Za
 | k+1,out,hs,h=>by
  by_cases he:tot (Dz out be)=tot out
  ·exact ⟨out,hs.clo hv he⟩
  ·have hp:=hs.rnd hv be fun _ h=>h;have:=hp.bound;have:=(BE hv be out (fun _ h=>h) hs).1;exact aK hv k (Dz out be) hp Za
noncomputable def JG (n:Nat) (be:List (Int×Int)):List Nat:=open Classical in if h: ∃out,Clo n be out then h.choose else []
theorem D0 {n be} (hv:Val n be):Clo n be (JG n be):=by
 have h:=aK hv _ (List.replicate n 0) (Snd.zero n be) (Nat.lt_succ_self _);rw [JG,dif_pos h]
 grind
theorem aJ {n be out} (hv:Val n be) (h:Clo n be out):JG n be=out:=(D0 hv).uniq hv h
theorem Ui {n be} (hv:Val n be) (a b:Nat) (hb:b<n):(nth (JG n be) b).testBit a=true↔Ch be a b :=
 ⟨(D0 hv).snd a b hb,(D0 hv).cmp a b⟩
end Go.Proofs.YtiigdaohjanidaaGreatDoor.K
