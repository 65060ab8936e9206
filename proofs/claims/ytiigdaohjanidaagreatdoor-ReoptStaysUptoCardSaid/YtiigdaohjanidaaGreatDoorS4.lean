/- Declarations that the closing texts need, part 4: joined by tools/slim.py. -/
import Derived.Test.YtiigdaohjanidaaGreatDoorS3
set_option linter.unusedVariables false
set_option linter.unusedSimpArgs false
universe u
namespace Go.AM
open Go.RowKit
structure Tk {α:Sort u} (a:α):Type where
def Zv {α:Sort u} (a:α) (_:Tk a):α:=a
@[go_sem] theorem Zcf {α β:Type} {f:α->β} {t x} :Zv f t x=f x:=Zk rfl rfl
@[go_sem ↓] theorem Zcg {α β:Type} {f:α->β->Prop} {t x y} :Zv f t x y=f x y:=Zk rfl rfl
@[go_sem ↓] theorem Zch {α β γ:Type} {f:α->β->γ->Prop} {t x y z} :Zv f t x y z=f x y z:=Zk rfl rfl
def CO (x:Option V) (K:V->Prop):Prop:=match x with | some v=>K v | none=>False
def KV (x:Option (V×List Obj)) (K:V->List Obj->Prop):Prop:=match x with | some (v,H)=>K v H | none=>False
def bst (x:V) (K:Bool->Prop):Prop:=match x with | .p (.bool b)=>K b | _=>False
def hst (x:Option (List Obj)) (K:List Obj->Prop):Prop:=match x with | some H=>K H | none=>False
@[go_sem ↓, go_sem] theorem ZgX {v K} :CO (some v) K=K v:=Zk rfl rfl
@[go_sem ↓, go_sem] theorem ZgA {v H K} :KV (some (v,H)) K=K v H:=Zk rfl rfl
@[go_sem ↓, go_sem] theorem ZfE {H K} :hst (some H) K=K H:=Zk rfl rfl
@[congr] theorem Zcx {x x' K} (h:x=x'):CO x K=CO x' K:=by rw [h]
@[congr] theorem Zcq {x x' K} (h:x=x'):KV x K=KV x' K:=by rw [h]
@[congr] theorem Zci {x x' K} (h:x=x'):hst x K=hst x' K:=by rw [h]
def M6 (fr:List V):List V:=fr
@[go_sem] theorem ZkX {fr} :M6 fr=fr:=Zk rfl rfl
section code
variable {cuts : List Nat} {P : Program} {fr : List V} {H : List Obj} {Q : Exit -> List V -> List Obj -> Prop}
@[go_sem ↓] theorem Zb5 : QJ cuts P .skip fr H Q=Q .normal fr H:=Zk rfl rfl
@[go_sem ↓] theorem pT {id} {l:List Oper} :QJ cuts P (.region id l.toArray false) fr H Q=Yy P (l.map (·.dst)) l (M6 fr) H (Zv (Q .normal) ⟨⟩):=by rfl
@[go_sem ↓] theorem sV {id ops} :QJ cuts P (.region id ops true) fr H Q=AWP P (.region id (Zv ops ⟨⟩) true) fr H (Zv Q ⟨⟩):=by rfl
@[go_sem ↓] theorem Ze2 {x y} :QJ [] P (.seq x y) fr H Q=QJ [] P x fr H (Qv (fun fr H=>QJ [] P y fr H Q) Q):=by
 grind [QJ]
def fM (b:Bool) (A B:Prop):Prop:=if b then A else B
def IR (cuts:List Nat):Option Nat->Bool
 | some i=>cuts.contains i
 | none=>false
@[go_sem ↓] theorem Zb4 {k x y} :QJ (k::cuts) P (.seq x y) fr H Q=fM (IR (k::cuts) (Le x)) (Zv (AWP P (.seq (Zv x ⟨⟩) (Zv y ⟨⟩)) fr H (Zv Q ⟨⟩)) ⟨⟩) (Zv (QJ (k::cuts) P x fr H (Qv (fun fr H=>QJ (k::cuts) P y fr H Q) Q)) ⟨⟩):=by
 rfl
@[go_sem ↓, go_sem] theorem Zcz {A B:Prop} {t} :fM true (Zv A t) B=A:=by rfl
@[go_sem ↓, go_sem] theorem ZaQ {A B:Prop} {t} :fM false A (Zv B t)=B:=by rfl
theorem NK {b b' A B} (h:b=b'):fM b A B=fM b' A B:=by rw [h]
@[go_sem ↓] theorem uJ {id ops d} :Le (.region id ops d)=some id:=Zk rfl rfl
@[go_sem ↓] theorem Zjb {x y} :Le (.seq x y)=Le x:=Zk rfl rfl
@[go_sem ↓] theorem Zce {id c} :Le (.block id c)=Le c:=Zk rfl rfl
@[go_sem ↓] theorem ZfA {c x y} :Le (.cond c x y)=none:=Zk rfl rfl
@[go_sem ↓] theorem ZfC {c} :Le (.loop c)=none:=Zk rfl rfl
@[go_sem] theorem tQ : IR cuts none=false:=Zk rfl rfl
@[go_sem] theorem Zca {i} :IR [] (some i)=false:=Zk rfl rfl
@[go_sem] theorem tP {k i} :IR (k::cuts) (some i)=(decide (i=k)||IR cuts (some i)):=by rfl
@[go_sem ↓] theorem Zb0 {c x y} :QJ cuts P (.cond c x y) fr H Q=Vx (ev fr c) (Zv (QJ cuts P x fr H Q) ⟨⟩) (Zv (QJ cuts P y fr H Q) ⟨⟩):=Zk rfl rfl
@[go_sem ↓] theorem sU {id c} :QJ cuts P (.block id c) fr H Q=QJ cuts P c fr H (Ua id Q):=Zk rfl rfl
@[go_sem ↓] theorem Zb1 {id} :QJ cuts P (.exit id) fr H Q=Q (.exit id) fr H:=Zk rfl rfl
@[go_sem ↓] theorem Ze1 : QJ cuts P .ret fr H Q=Q .ret fr H:=Zk rfl rfl
@[go_sem ↓] theorem Zb3 {c} :QJ cuts P (.loop c) fr H Q=AWP P (.loop (Zv c ⟨⟩)) fr H (Zv Q ⟨⟩):=Zk rfl rfl
@[go_sem ↓] theorem Zb2 {c t} :QJ cuts P (Zv c t) fr H Q=QJ cuts P c fr H Q:=Zk rfl rfl
theorem PJ {c fr' H'} (h:fr=fr') (h2:H=H'):QJ cuts P c fr H Q=QJ cuts P c fr' H' Q:=by rw [h,h2]
theorem Pp {c fr' H'} (h:fr=fr') (h2:H=H'):AWP P c fr H Q=AWP P c fr' H' Q:=by rw [h,h2]
@[go_sem ↓] theorem nL {A:List V->List Obj->Prop} :Qv A Q .normal fr H=A fr H:=Zk rfl rfl
@[go_sem ↓] theorem ZaW {A:List V->List Obj->Prop} {id} :Qv A Q (.exit id) fr H=Q (.exit id) fr H:=Zk rfl rfl
@[go_sem ↓] theorem Zdo {A:List V->List Obj->Prop} :Qv A Q .ret fr H=Q .ret fr H:=Zk rfl rfl
@[go_sem ↓] theorem gV {id} :Ua id Q .normal fr H=Q .normal fr H:=Zk rfl rfl
@[go_sem ↓] theorem sX {id} :Ua id Q .ret fr H=Q .ret fr H:=Zk rfl rfl
@[go_sem ↓] theorem pV {id id'} :Ua id Q (.exit id') fr H=if id'=id then Q .normal fr H else Q (.exit id') fr H:=Zk rfl rfl
theorem Md {A:List V->List Obj->Prop} {e fr' H'} (h:fr=fr') (h2:H=H'):Qv A Q e fr H=Qv A Q e fr' H':=by rw [h,h2]
theorem G7 {id e fr' H'} (h:fr=fr') (h2:H=H'):Ua id Q e fr H=Ua id Q e fr' H':=by rw [h,h2]
@[go_sem ↓] theorem qV {rs} {Q:V->List Obj->Prop} :Jp P rs Q .normal fr H=KV ((Yr P fr H rs).map fun xs=>(W5 xs,H)) (Zv Q ⟨⟩):=by
 simp only [Jp,Zv];grind [KV]
@[go_sem ↓] theorem Zg2 {rs} {Q:V->List Obj->Prop} :Jp P rs Q .ret fr H=KV ((Yr P fr H rs).map fun xs=>(W5 xs,H)) (Zv Q ⟨⟩):=by
 simp only [Jp,Zv];grind [KV]
theorem NF {rs e fr' H'} {Q:V->List Obj->Prop} (h:fr=fr') (h2:H=H'):Jp P rs Q e fr H=Jp P rs Q e fr' H':=by rw [h,h2]
@[go_sem] theorem ZaK : Yr P fr H []=some []:=Zk rfl rfl
@[go_sem] theorem ZaL {t l} :Yr P fr H (.tmp t::l)=(Yr P fr H l).map (gt fr t:: ·):=by
 simp only [Yr,Sb];cases Yr P fr H l<;>rfl
@[go_sem] theorem qT {a t l} :Yr P fr H (.cell a t::l)=(Qa P H t (gt fr a)).bind fun x=>(Yr P fr H l).map (x:: ·):=by
 simp only [Yr,Sb];cases Qa P H t (gt fr a)<;>cases Yr P fr H l<;>rfl
@[go_sem] theorem ZaM {x} :W5 [x]=x:=Zk rfl rfl
@[go_sem] theorem qU : W5 []= .tup []:=Zk rfl rfl
@[go_sem] theorem NE {x y l} :W5 (x::y::l)= .tup (x::y::l):=Zk rfl rfl
end code
attribute [congr] NK PJ Pp Md G7 NF
@[go_sem] theorem Zja {x:V} {l} :gt (x::l) 0=x:=Zk rfl rfl
@[go_sem] theorem Zi9 {x:V} {l n} :gt (x::l) (n+1)=gt l n:=Zk rfl rfl
@[go_sem] theorem ZkV {n} :gt [] n= .junk:=Zk rfl rfl
@[go_sem] theorem Zjw {x v:V} {l} :pt (x::l) 0 v=v::l:=Zk rfl rfl
@[go_sem] theorem Zjv {x v:V} {l n} :pt (x::l) (n+1) v=x::pt l n v:=Zk rfl rfl
@[go_sem] theorem ZgZ {fr d v} :YZ fr (some d) v=pt fr d v:=Zk rfl rfl
@[go_sem] theorem ZgY {fr v} :YZ fr none v=fr:=Zk rfl rfl
@[go_sem] theorem ZgE {x:Obj} {l} :oat (x::l) 0=x:=Zk rfl rfl
@[go_sem] theorem ZgD {x:Obj} {l n} :oat (x::l) (n+1)=oat l n:=Zk rfl rfl
@[go_sem] theorem ZgO {x v:Obj} {l} :Ei (x::l) 0 v=v::l:=Zk rfl rfl
@[go_sem] theorem ZgN {x v:Obj} {l n} :Ei (x::l) (n+1) v=x::Ei l n v:=Zk rfl rfl
@[go_sem] theorem ZiX {fr t} :evx fr (.tmp t)=gt fr t:=Zk rfl rfl
@[go_sem] theorem uA {fr g} :evx fr (.global g)=bD g:=Zk rfl rfl
@[go_sem] theorem ZkK {fr t} :ev fr (.tmp t)=gt fr t:=Zk rfl rfl
@[go_sem] theorem ZiU {fr f} :ev fr (.func f)= .fn (.func f) [] []:=Zk rfl rfl
@[go_sem] theorem ZkI {fr k n} :ev fr (.const (.int k n))= .p (.int k n):=Zk rfl rfl
@[go_sem] theorem ZiT {fr b} :ev fr (.const (.bool b))= .p (.bool b):=Zk rfl rfl
@[go_sem] theorem ZkJ {fr s} :ev fr (.const (.string s))= .p (.str s.data.toList):=Zk rfl rfl
@[go_sem] theorem ZiW {fr} :ev fr (.const (.slice none 0 0))= .p (.list true []):=Zk rfl rfl
@[go_sem] theorem ZiV {fr} :ev fr (.const (.pointer none))= .p .nilp:=Zk rfl rfl
@[go_sem] theorem ZkH {fr l} :ev fr (.const (.agg (List.toArray l)))=match tS l with | some xs=> .p (.agg xs) | none=> .junk:=Zk rfl rfl
@[go_sem] theorem Zfw {fr d} {l:List (Option Nat)} :BQ fr (some d::l) 0=gt fr d:=by simp [BQ]
@[go_sem] theorem Zfv {fr o n} {l:List (Option Nat)} :BQ fr (o::l) (n+1)=BQ fr l n:=by simp [BQ]
section ops
variable {P : Program} {fr : List V} {H : List Obj} {ds : List (Option Nat)} {K : List V -> List Obj -> Prop} {r : List Oper} {d : Option Nat} {t : TypeId} {ps : String} {af : Array Edge} {g : Option (Nat × Bool)} {k : V -> List Obj -> Prop}
theorem Mz {l fr' H'} (h:fr=fr') (h2:H=H'):Yy P ds l fr H K=Yy P ds l fr' H' K:=by rw [h,h2]
theorem Iw {o fr' H'} (h:fr=fr') (h2:H=H'):Zs P o fr H k=Zs P o fr' H' k:=by rw [h,h2]
@[go_sem ↓] theorem ZeR : Yy P ds [] fr H K=K fr H:=Zk rfl rfl
@[go_sem] theorem ZbL {op} :Yy P ds (⟨d,op,t,ps,af,none⟩::r) fr H K=Zs P ⟨d,op,t,ps,af,none⟩ fr H (Zv (fun x H'=>Yy P ds r (YZ fr d x) H' K) ⟨⟩):=Zk rfl rfl
@[go_sem] theorem rW {op j b} :Yy P ds (⟨d,op,t,ps,af,some (j,b)⟩::r) fr H K=Xv (BQ fr ds j) b (Zv (Zs P ⟨d,op,t,ps,af,none⟩ fr H (Zv (fun x H'=>Yy P ds r (YZ fr d x) H' K) ⟨⟩)) ⟨⟩) (Zv (Yy P ds r (YZ fr d (.tup [])) H K) ⟨⟩):=by
 rfl
theorem XC {op:Op} (h:Yu op=none) (h2:Wg P op fr H=none):Zs P ⟨d,op,t,ps,af,g⟩ fr H k=CO (Z4 P op fr H) fun x=>k x H:=by
 simp only [Zs,h,GV,h2]
 all_goals (cases Z4 P op fr H<;>rfl)
theorem PH {op:Op} (h:Yu op=none) (h2:Z4 P op fr H=none):Zs P ⟨d,op,t,ps,af,g⟩ fr H k=KV (Wg P op fr H) k:=by
 grind [Zs,GV,KV]
@[go_sem ↓] theorem sN {x} :Zs P ⟨d,.move x,t,ps,af,g⟩ fr H k=k (ev fr x) H:=by rfl
@[go_sem ↓] theorem jC {x} :Zs P ⟨d,.assign x,t,ps,af,g⟩ fr H k=k (ev fr x) H:=by rfl
def vif (b:Bool) (x y:V):V:=if b then x else y
@[go_sem] theorem Zh9 {x y} :vif true x y=x:=Zk rfl rfl
@[go_sem] theorem Zdp {x y} :vif false x y=y:=Zk rfl rfl
@[go_sem] theorem Zh8 {b x y} :vif b (.p (.bool x)) (.p (.bool y))= .p (.bool (if b then x else y)):=by cases b<;>rfl
@[go_sem] theorem ZeW {b} :sD (.p (.bool b))=some b:=Zk rfl rfl
@[go_sem ↓] theorem sP {c x y} :Zs P ⟨d,.pick c x y,t,ps,af,g⟩ fr H k=CO ((sD (ev fr c)).map fun b=>vif b (ev fr x) (ev fr y)) (Zv (fun v=>k v H) ⟨⟩):=by
 rw [XC rfl rfl];simp only [Z4,X1]
 cases sD (ev fr c)<;>rfl
@[go_sem ↓] theorem sM {u x} :Zs P ⟨d,.load u x,t,ps,af,g⟩ fr H k=CO (Qa P H u (ev fr x)) (Zv (fun v=>k v H) ⟨⟩):=by rw [XC rfl rfl];rfl
@[go_sem ↓] theorem To {x} :Zs P ⟨d,.nilCheck x,t,ps,af,g⟩ fr H k=CO (if YS H (ev fr x)||bN (ev fr x) then some (ev fr x) else none) (Zv (fun v=>k v H) ⟨⟩):=by rw [XC rfl rfl];rfl
@[go_sem ↓] theorem ZbT {op u x y u2} :Zs P ⟨d,.binOp op u x y u2,t,ps,af,g⟩ fr H k=CO ((XW P op u (ev fr x) (ev fr y)).map .p) (Zv (fun v=>k v H) ⟨⟩):=by rw [XC rfl rfl];rfl
@[go_sem ↓] theorem ZeZ {op u x} :Zs P ⟨d,.unOp op u x,t,ps,af,g⟩ fr H k=CO ((aun op (ev fr x)).map .p) (Zv (fun v=>k v H) ⟨⟩):=by rw [XC rfl rfl];rfl
def dB (x y:Option PV):Option PV:=match x with | some z=>some z | none=>y
@[go_sem] theorem Zas {z y} :dB (some z) y=some z:=Zk rfl rfl
@[go_sem] theorem Zar {y} :dB none y=y:=Zk rfl rfl
@[go_sem ↓] theorem sL {s u x} :Zs P ⟨d,.convert s u x,t,ps,af,g⟩ fr H k=CO ((dB (BR P H s u (ev fr x)) (Ii P s u (ev fr x))).map .p) (Zv (fun v=>k v H) ⟨⟩):=by
 rw [XC rfl rfl];simp only [Z4,X1]
 cases BR P H s u (ev fr x)<;>rfl
@[go_sem ↓] theorem Tn {f cs es} :Zs P ⟨d,.makeFunc f (List.toArray cs) (List.toArray es),t,ps,af,g⟩ fr H k=k (.fn f (cs.map (ev fr)) (es.map (ev fr))) H:=by rfl
@[go_sem ↓] theorem pR {u x lo hi mx} :Zs P ⟨d,.slice u x lo hi mx,t,ps,af,g⟩ fr H k=CO (Vi P H u fr (ev fr x) lo hi mx) (Zv (fun v=>k v H) ⟨⟩):=by rw [XC rfl rfl];rfl
@[go_sem ↓] theorem SH {s x f} :Zs P ⟨d,.fieldAddr s x f,t,ps,af,g⟩ fr H k=CO (QE P H s f (ev fr x)) (Zv (fun v=>k v H) ⟨⟩):=by rw [XC rfl rfl];rfl
@[go_sem ↓] theorem SI {u x i} :Zs P ⟨d,.indexAddr u x i,t,ps,af,g⟩ fr H k=CO (UN P H u (evx fr x) (ev fr i)) (Zv (fun v=>k v H) ⟨⟩):=by rw [XC rfl rfl];rfl
@[go_sem ↓] theorem pQ {u x i} :Zs P ⟨d,.index u x i,t,ps,af,g⟩ fr H k=CO (Im P u (ev fr x) (ev fr i)) (Zv (fun v=>k v H) ⟨⟩):=by rw [XC rfl rfl];rfl
def axt (x:V) (i:Nat):Option V:=match x with | .tup vs=>vs[i]? | _=>none
@[go_sem] theorem ZiD {vs i} :axt (.tup vs) i=vs[i]? :=Zk rfl rfl
@[go_sem ↓] theorem gS {x i} :Zs P ⟨d,.extract x i,t,ps,af,g⟩ fr H k=CO (axt (ev fr x) i) (Zv (fun v=>k v H) ⟨⟩):=by
 rw [XC rfl rfl]
 rfl
@[go_sem ↓] theorem pP {u l} :Zs P ⟨d,.build u (List.toArray l),t,ps,af,g⟩ fr H k=CO (Do P H u (l.map fun x=>(x.1,ev fr x.2))) (Zv (fun v=>k v H) ⟨⟩):=by rw [XC rfl rfl];rfl
@[go_sem ↓] theorem ZbV {x u} :Zs P ⟨d,.call ⟨.builtin .len,#[x],#[u]⟩,t,ps,af,g⟩ fr H k=CO ((Tb P H u (ev fr x)).map .p) (Zv (fun v=>k v H) ⟨⟩):=by rw [XC rfl rfl];rfl
@[go_sem ↓] theorem ZbW {x y us} :Zs P ⟨d,.call ⟨.builtin .max,#[x,y],us⟩,t,ps,af,g⟩ fr H k=CO ((Mw false [ev fr x,ev fr y]).map .p) (Zv (fun v=>k v H) ⟨⟩):=by
 rw [XC rfl rfl];rfl
@[go_sem ↓] theorem pO {u} :Zs P ⟨d,.alloc u,t,ps,af,g⟩ fr H k=KV ((Xt P u).map fun zs=>(.ptr H.length 0,H++ [.cells (zs.map .p)])) (Zv k ⟨⟩):=by rfl
@[go_sem ↓] theorem ZbU {u x} :Zs P ⟨d,.box u x,t,ps,af,g⟩ fr H k=KV ((vc H (ev fr x)).map fun cs=>(.ptr H.length 0,H++ [.cells cs])) (Zv k ⟨⟩):=by rfl
def sR (H:List Obj) (n:Option Nat) (a:V) (cs:Option (List V)):Option (List Obj):=n.bind fun n=>cs.bind fun cs=>K2 H n a cs
@[go_sem] theorem ZbY {n a cs} :sR H (some n) a (some cs)=K2 H n a cs:=Zk rfl rfl
@[go_sem ↓] theorem pS {u x y} :Zs P ⟨d,.store u x y,t,ps,af,g⟩ fr H k=hst (sR H (Yx P u) (ev fr x) (vc H (ev fr y))) (Zv (k .junk) ⟨⟩):=by
 rw [PH rfl rfl];simp only [Wg,sR]
 cases Yx P u<;>cases vc H (ev fr y)<;>simp [hst,KV,Zv]
 grind
@[go_sem ↓] theorem PG {u n l} :Zs P ⟨d,.buildSlice u n (List.toArray l),t,ps,af,g⟩ fr H k=KV (Wg P (.buildSlice u n (List.toArray l)) fr H) (Zv k ⟨⟩):=by rfl
@[go_sem ↓] theorem gU {u} :Zs P ⟨d,.makeMap u none,t,ps,af,g⟩ fr H k=k (.mp H.length) (H++ [.map []]):=by rfl
@[go_sem ↓] theorem jD {u x y ok} :Zs P ⟨d,.lookup u x y ok,t,ps,af,g⟩ fr H k=KV (Ax P H u (ev fr x) (ev fr y) ok) (Zv k ⟨⟩):=by rfl
@[go_sem ↓] theorem sO {u x y z} :Zs P ⟨d,.mapUpdate u x y z,t,ps,af,g⟩ fr H k=KV (Cu P H u (ev fr x) (ev fr y) (ev fr z)) (Zv k ⟨⟩):=by rfl
@[go_sem ↓] theorem SJ {u x y} :Zs P ⟨d,.makeSlice u x y,t,ps,af,g⟩ fr H k=KV (Wg P (.makeSlice u x y) fr H) (Zv k ⟨⟩):=by rfl
@[go_sem ↓] theorem jB {x y u u2} :Zs P ⟨d,.call ⟨.builtin .append,#[x,y],#[u,u2]⟩,t,ps,af,g⟩ fr H k=KV (Vf P H u u2 (ev fr x) (ev fr y)) (Zv k ⟨⟩):=by rfl
@[go_sem ↓] theorem sK {f azs ts} :Zs P ⟨d,.call ⟨.value f,List.toArray azs,ts⟩,t,ps,af,g⟩ fr H k=KQ P (ev fr f) (azs.map (ev fr)) H (Zv k ⟨⟩):=Zk rfl rfl
@[go_sem ↓] theorem ZeG {f fs cs azs} :KQ P (.fn (.func f) fs cs) azs H k=ACalls P f (fs++azs++cs) H k:=Zk rfl rfl
@[go_sem ↓] theorem Zbn {f azs} :KQ P (.p (.fn f)) azs H k=ACalls P f azs H k:=Zk rfl rfl
theorem Ig {f f' azs as'} (h:f=f') (h2:azs=as'):KQ P f azs H k=KQ P f' as' H k:=by rw [h,h2]
theorem GN {f azs as' H'} (h2:azs=as') (h3:H=H'):ACalls P f azs H k=ACalls P f as' H' k:=by rw [h2,h3]
theorem Ih {x x' A B} (h:x=x'):Vx x A B=Vx x' A B:=by rw [h]
theorem GR {x x' b A B} (h:x=x'):Xv x b A B=Xv x' b A B:=by rw [h]
@[go_sem ↓, go_sem] theorem rK {A:Prop} {t B'} :Vx (.p (.bool true)) (Zv A t) B'=A:=by simp [Vx,Zv]
@[go_sem ↓, go_sem] theorem pB {B:Prop} {t B'} :Vx (.p (.bool false)) B' (Zv B t)=B:=by simp [Vx,Zv]
@[go_sem ↓, go_sem] theorem Zbx {A:Prop} {t B} :Xv (.p (.bool true)) true (Zv A t) B=A:=by simp [Xv,Zv]
@[go_sem ↓, go_sem] theorem Zbw {B:Prop} {t A} :Xv (.p (.bool true)) false A (Zv B t)=B:=by simp [Xv,Zv]
@[go_sem ↓, go_sem] theorem Zbv {B:Prop} {t A} :Xv (.p (.bool false)) true A (Zv B t)=B:=by simp [Xv,Zv]
@[go_sem ↓, go_sem] theorem Zbu {A:Prop} {t B} :Xv (.p (.bool false)) false (Zv A t) B=A:=by simp [Xv,Zv]
@[go_sem ↓, go_sem] theorem pD {b} {B:Prop} {t A} :Xv (.tup []) b A (Zv B t)=B:=by rfl
theorem QD {c:Bool} {A B:Prop} {t t'} (h1:c=true->A) (h2:c=false->B):Vx (.p (.bool c)) (Zv A t) (Zv B t'):=⟨h1,h2⟩
theorem Vy {c:Bool} {A B:Prop} {t t'} (h1:c=true->A) (h2:c=false->B):Xv (.p (.bool c)) true (Zv A t) (Zv B t'):=⟨h1,fun h=>h2 (by simpa using h)⟩
theorem V6 {c:Bool} {A B:Prop} {t t'} (h1:c=true->B) (h2:c=false->A):Xv (.p (.bool c)) false (Zv A t) (Zv B t'):=⟨h2,fun h=>h1 (by simpa using h)⟩
theorem Zc {P Q:Prop} (h:Q) (e:Q->P:=by intro h;simp (disch:=omega) only [go_sem,seval];exact h):P:=e h
class Dc (c:Bool) (p q:outParam Prop):Prop where
 t:c=true->p
 f:c=false->q
instance dcD {p : Prop} [Decidable p] : Dc (decide p) p (¬p) := ⟨A9, of_decide_eq_false⟩
instance (priority := low) dcB {c : Bool} : Dc c (c = true) (c = false) := ⟨id, id⟩
theorem cD {c:Bool} {A B p q:Prop} {t t'} [d:Dc c p q] (h1:p->A) (h2:q->B):Vx (.p (.bool c)) (Zv A t) (Zv B t'):=QD (fun h=>h1 (d.t h)) (fun h=>h2 (d.f h))
theorem gT {c:Bool} {A B p q:Prop} {t t'} [d:Dc c p q] (h1:p->A) (h2:q->B):Xv (.p (.bool c)) true (Zv A t) (Zv B t'):=Vy (fun h=>h1 (d.t h)) (fun h=>h2 (d.f h))
theorem gF {c:Bool} {A B p q:Prop} {t t'} [d:Dc c p q] (h1:p->B) (h2:q->A):Xv (.p (.bool c)) false (Zv A t) (Zv B t'):=V6 (fun h=>h1 (d.t h)) (fun h=>h2 (d.f h))
@[go_sem] theorem Zjr {p:Prop} [Decidable p]:(!decide p)=decide (¬p):=Zb
end ops
attribute [congr] Mz Iw Ig GN Ih GR
section vals
variable {P : Program} {H : List Obj} {k : IntKind} {t u : TypeId}
@[go_sem] theorem Zeu {a b} :XW P .add t (.p (.int k a)) (.p (.int k b))=some (.int k (k.wrap (a+b))):=by simp [XW,UY]
@[go_sem] theorem ZeF {a b} :XW P .sub t (.p (.int k a)) (.p (.int k b))=some (.int k (k.wrap (a-b))):=by simp [XW,UY]
@[go_sem] theorem SX {a b} :XW P .mul t (.p (.int k a)) (.p (.int k b))=some (.int k (k.wrap (a*b))):=by simp [XW,UY]
@[go_sem] theorem SZ {a b} (h:b≠0):XW P .quo t (.p (.int k a)) (.p (.int k b))=some (.int k (k.wrap (a.tdiv b))):=by simp [XW,UY,h]
@[go_sem] theorem ZeD {a b} (h:b≠0):XW P .rem t (.p (.int k a)) (.p (.int k b))=some (.int k (a.tmod b)):=by simp [XW,UY,h]
@[go_sem] theorem Ie {a b} :XW P .and t (.p (.int k a)) (.p (.int k b))=some (.int k (k.wrap ((BitVec.ofInt k.bits a&&&BitVec.ofInt k.bits b).toNat:Int))):=by simp [XW,UY]
@[go_sem] theorem NZ {a b} :XW P .or t (.p (.int k a)) (.p (.int k b))=some (.int k (k.wrap ((BitVec.ofInt k.bits a|||BitVec.ofInt k.bits b).toNat:Int))):=by simp [XW,UY]
@[go_sem] theorem If {a b} :XW P .andNot t (.p (.int k a)) (.p (.int k b))=some (.int k (k.wrap ((BitVec.ofInt k.bits a&&& ~~~(BitVec.ofInt k.bits b)).toNat:Int))):=by simp [XW,UY]
@[go_sem] theorem Zex {a b} :XW P .eql t (.p (.int k a)) (.p (.int k b))=some (.bool (decide (a=b))):=by simp [XW,UY]
@[go_sem] theorem ZeC {a b} :XW P .neq t (.p (.int k a)) (.p (.int k b))=some (.bool (decide (¬a=b))):=by simp [XW,UY]
@[go_sem] theorem ZeB {a b} :XW P .lss t (.p (.int k a)) (.p (.int k b))=some (.bool (decide (a<b))):=by simp [XW,UY]
@[go_sem] theorem ZeA {a b} :XW P .leq t (.p (.int k a)) (.p (.int k b))=some (.bool (decide (a<=b))):=by simp [XW,UY]
@[go_sem] theorem Zez {a b} :XW P .gtr t (.p (.int k a)) (.p (.int k b))=some (.bool (decide (b<a))):=by simp [XW,UY]
@[go_sem] theorem Zey {a b} :XW P .geq t (.p (.int k a)) (.p (.int k b))=some (.bool (decide (b<=a))):=by simp [XW,UY]
@[go_sem] theorem S0 {a b k'} (h:0<=b):XW P .shl t (.p (.int k a)) (.p (.int k' b))=some (.int k (k.wrap (a*2^(min b.toNat k.bits)))):=by grind [XW,UY]
@[go_sem] theorem S1 {a b k'} (h:0<=b):XW P .shr t (.p (.int k a)) (.p (.int k' b))=some (.int k (a.fdiv (2^(min b.toNat k.bits)))):=by grind [XW,UY]
@[go_sem] theorem ZeE {op a b} :XW P op t (.p (.str a)) (.p (.str b))=HQ op a b:=Zk rfl rfl
@[go_sem] theorem Zg5 {a b} :HQ .eql a b=some (.bool (decide (a=b))):=Zk rfl rfl
@[go_sem] theorem Zg6 {a b} :HQ .neq a b=some (.bool (decide (¬a=b))):=by simp [HQ]
@[go_sem] theorem fK {a b} (h:a.length+b.length<=9223372036854775807):HQ .add a b=some (.str (a++b)):=by simp [HQ,h]
def Ze3 (op:BinOp) (u:Option TypeDesc) (a b:Bool):Option PV:=match op,u with
  | .eql,some .bool=>some (.bool (a==b))
  | .neq,some .bool=>some (.bool (!(a==b)))
  | _,_=>none
end vals
attribute [irreducible] CO KV hst bst
end Go.AM
namespace Go.AM
open Go.RowKit
section vals
variable {P : Program} {H : List Obj} {k : IntKind} {t u : TypeId}
@[go_sem] theorem Zbi {op a b} :XW P op t (.p (.bool a)) (.p (.bool b))=Ze3 op (P.underlying t) a b:=Zk rfl rfl
@[go_sem] theorem Ze4 {a b} :Ze3 .neq (some .bool) a b=some (.bool (!(a==b))):=Zk rfl rfl
def uF (g:Bool) (op:BinOp) (r:Option Bool):Option PV:=if g then none else match op with
 | .eql=>r.map .bool
 | .neq=>r.map fun r=> .bool (!r)
 | _=>none
@[go_sem] theorem Zev {op a b} :XW P op t (.p (.agg a)) (.p (.agg b))=uF (P.eqGuardType P.depth t) op (VJ P 9 t (.agg a) (.agg b)):=Zk rfl rfl
@[go_sem] theorem Zfx {b} :uF false .eql (some b)=some (.bool b):=Zk rfl rfl
@[go_sem] theorem Zfy {b} :uF false .neq (some b)=some (.bool (!b)):=Zk rfl rfl
def Ij (P:Program) (d:Nat) (t:TypeId) (D:Option TypeDesc) (x y:PV):Option Bool:=match D,x,y with
  | some .bool,.bool a,.bool b=>some (a==b)
  | some (.int _),.int k a,.int k' b=>if k=k' then some (decide (a=b)) else none
  | some .string,.str a,.str b=>some (decide (a=b))
  | some (.struct fs),.agg a,.agg b=>if P.stoodInHeld t then none else Au (VJ P d) P fs.toList a b
  | some (.array n e),.agg a,.agg b=>match Yx P e with | some m=>Pu (VJ P d e) P e m n 0 a b | none=>none
  | _,_,_=>none
@[go_sem] theorem Zbr {d x y} :VJ P (d+1) t x y=Ij P d t (P.underlying t) x y:=Zk rfl rfl
@[go_sem] theorem Zbq {d a b} :Ij P d t (some .bool) (.bool a) (.bool b)=some (a==b):=Zk rfl rfl
@[go_sem] theorem ZeI {d k0 a b} :Ij P d t (some (.int k0)) (.int k a) (.int k b)=some (decide (a=b)):=by simp [Ij]
theorem Ct {d fs a b} (h:P.stoodInHeld t=false):Ij P d t (some (.struct fs)) (.agg a) (.agg b)=Au (VJ P d) P fs.toList a b:=by simp [Ij,h]
def Lw (x y:Option Bool):Option Bool:=x.bind fun p=>y.map fun q=>p&&q
@[go_sem] theorem Zcu {p q} :Lw (some p) (some q)=some (p&&q):=Zk rfl rfl
def qB (f:PV->PV->Option Bool) (x y:Option PV):Option Bool:=x.bind fun x=>y.bind fun y=>f x y
@[go_sem] theorem Zfq {f x y} :qB f (some x) (some y)=f x y:=Zk rfl rfl
@[go_sem] theorem Ik {f a b} :Au f P [] a b=some true:=Zk rfl rfl
@[go_sem] theorem FC {f fi r a b} : Au f P (fi :: r) a b = if fi.name = "_" then Au f P r a b else Lw (qB (f fi.type) (apart P fi.type a fi.offset) (apart P fi.type b fi.offset)) (Au f P r a b) := by
 simp only [Au]
 split
 ·rfl
 ·cases apart P fi.type a fi.offset<;>cases apart P fi.type b fi.offset<;>simp [qB,Lw]
  rename_i x y
  cases f fi.type x y<;>cases Au f P r a b<;>rfl
def ZeT (g:Option Bool) (s:Option Nat) (cs:List PV) (off:Nat):Option PV:=match g,s with
 | some true,some n=>if off+n<=cs.length then some (.agg ((cs.drop off).take n)) else none
 | some false,_=>cs[off]?
 | _,_=>none
@[go_sem] theorem ZeS {cs off} :apart P t cs off=ZeT (XH P t) (Yx P t) cs off:=Zk rfl rfl
@[go_sem] theorem ZeU {s cs off} :ZeT (some false) s cs off=cs[off]? :=Zk rfl rfl
def Mv (g:Option Bool) (s:Option Nat) (H:List Obj) (x:V):Option V:=match g,s with
 | some true,some n=>(VI H x n).map mkA
 | some false,_=>match VI H x 1 with
  | some (c::_)=>some c
  | _=>none
 | _,_=>none
def hdO (x:Option (List V)):Option V:=match x with | some (c::_)=>some c | _=>none
@[go_sem] theorem Zfz {c l} :hdO (some (c::l))=some c:=Zk rfl rfl
@[go_sem] theorem ZeN {x} :Qa P H t x=Mv (XH P t) (Yx P t) H x:=Zk rfl rfl
@[go_sem] theorem rV {s x} :Mv (some false) s H x=hdO (VI H x 1):=by rfl
@[go_sem] theorem rU {n x} :Mv (some true) (some n) H x=(VI H x n).map mkA:=Zk rfl rfl
@[go_sem] theorem Zbp {x j n} :VI H (.lp x j) n=if j+n<=x.cells.length then some (((x.cells.drop j).take n).map .p) else none:=Zk rfl rfl
def eC (ob:Obj) (off n:Nat):Option (List V):=match ob with | .cells cs=>if off+n<=cs.length then some ((cs.drop off).take n) else none | _=>none
@[go_sem] theorem rJ {o off n} :VI H (.ptr o off) n=eC (oat H o) off n:=Zk rfl rfl
@[go_sem] theorem mD {cs off n} :eC (.cells cs) off n=if off+n<=cs.length then some ((cs.drop off).take n) else none:=Zk rfl rfl
def T9 (ob:Obj) (i j tot n:Nat):Option (List V):=match ob with
 | .elems _ xs=>if xs.length=tot/\i<xs.length/\j+n<=(UT xs i).cells.length then some ((((UT xs i).cells.drop j).take n).map .p) else none
 | _=>none
@[go_sem] theorem Zbo {o i j tot n} :VI H (.ep o i j tot) n=T9 (oat H o) i j tot n:=Zk rfl rfl
@[go_sem] theorem kF {S xs i j tot n} :T9 (.elems S xs) i j tot n=if xs.length=tot/\i<xs.length/\j+n<=(UT xs i).cells.length then some ((((UT xs i).cells.drop j).take n).map .p) else none:=Zk rfl rfl
@[go_sem] theorem Zb6 {cs} :(PV.agg cs).cells=cs:=Zk rfl rfl
@[go_sem] theorem Zb8 {n} :(PV.int k n).cells= [.int k n]:=Zk rfl rfl
@[go_sem] theorem tG {b} :(PV.bool b).cells= [.bool b]:=Zk rfl rfl
@[go_sem] theorem Zb9 {s} :(PV.str s).cells= [.str s]:=Zk rfl rfl
@[go_sem] theorem tH {c xs} :(PV.list c xs).cells= [.list c xs]:=Zk rfl rfl
@[go_sem] theorem Zjt {n} :(PV.int k n).one=true:=Zk rfl rfl
@[go_sem] theorem ZgL {b} :(PV.bool b).one=true:=Zk rfl rfl
@[go_sem] theorem Zju {s} :(PV.str s).one=true:=Zk rfl rfl
@[go_sem] theorem ZgM {c xs} :(PV.list c xs).one=true:=Zk rfl rfl
@[go_sem] theorem Zk7 {cs} :mkA cs=match UO cs with | some ps=> .p (.agg ps) | none=> .agg cs:=Zk rfl rfl
@[go_sem] theorem ZeM : UO []=some []:=Zk rfl rfl
@[go_sem] theorem ZbD {x r} :UO (.p x::r)=(UO r).map (x:: ·):=by rfl
def CR (n:Option Nat) (a:Bool) (x:V):Option V:=match n with | some n=>if a then some (Ay n x) else none | none=>none
@[go_sem] theorem Zbs {s f x} :QE P H s f x=CR (ZN P s f) (YS H x) x:=Zk rfl rfl
@[go_sem] theorem iB {n x} :CR (some n) true x=some (Ay n x):=Zk rfl rfl
@[go_sem] theorem ZeQ {n x j} :Ay n (.lp x j)= .lp x (j+n):=Zk rfl rfl
@[go_sem] theorem ZbI {n o off} :Ay n (.ptr o off)= .ptr o (off+n):=Zk rfl rfl
@[go_sem] theorem ZeP {n o i j tot} :Ay n (.ep o i j tot)= .ep o i (j+n) tot:=Zk rfl rfl
def OE (ob:Obj):Bool:=match ob with | .cells _=>true | _=>false
@[go_sem] theorem gX {cs} :OE (.cells cs)=true:=Zk rfl rfl
def OF (ob:Obj) (tot:Nat):Bool:=match ob with | .elems _ xs=>decide (xs.length=tot) | _=>false
@[go_sem] theorem gY {S xs tot} :OF (.elems S xs) tot=decide (xs.length=tot):=Zk rfl rfl
def bP (ob:Obj) (tot:Nat):Bool:=match ob with | .elems _ xs=>decide (xs.length=tot) | .cells _=>true | _=>false
@[go_sem] theorem qI {S xs tot} :bP (.elems S xs) tot=decide (xs.length=tot):=Zk rfl rfl
@[go_sem] theorem qH {cs tot} :bP (.cells cs) tot=true:=Zk rfl rfl
@[go_sem] theorem ZeL {x j} :YS H (.lp x j)=true:=Zk rfl rfl
@[go_sem] theorem rS {o off} :YS H (.ptr o off)=OE (oat H o):=Zk rfl rfl
@[go_sem] theorem ZeK {o i j tot} :YS H (.ep o i j tot)=OF (oat H o) tot:=Zk rfl rfl
def VV (e:Option (Option Nat×Nat)) (H:List Obj) (x i:V):Option V:=match e,i with
 | some (none,S),.p (.int _ n)=>match x with
  | .p (.list _ xs)=>if 0<=n/\n<xs.length then (if (UT xs n.toNat).cells.length=S then some (.lp (UT xs n.toNat) 0) else none) else none
  | .sl o off len tot=>match oat H o with
   | .elems S' xs=>if xs.length=tot/\S'=S then (if 0<=n/\n<len then some (.ep o (off+n.toNat) 0 tot) else none) else none
   | .cells _=>if S=1/\off=0/\len=tot/\0<=n/\n<len then some (.ptr o n.toNat) else none
   | _=>none
  | _=>none
 | some (some k,S),.p (.int _ n)=>if 0<=n/\n<k then (if YS H x then some (Ay (n.toNat*S) x) else none) else none
 | _,_=>none
@[go_sem] theorem Zbz {x i} :UN P H t x i=VV (YR P t) H x i:=Zk rfl rfl
theorem QF {S c xs n} (h0:0<=n) (h1:n<(List.length xs:Int)):VV (some (none,S)) H (.p (.list c xs)) (.p (.int k n))=if (UT xs n.toNat).cells.length=S then some (.lp (UT xs n.toNat) 0) else none:=by
 simp_all [VV]
def nth {α:Type} [Inhabited α] (l:List α) (i:Nat):α:=l.getD i default
theorem WY {α:Type} [Inhabited α] {f:α->PV} {l:List α} {i:Nat} (h:i<l.length):UT (l.map f) i=f (nth l i):=by
 simp [UT,nth,h]
theorem Zh {α:Type} [Inhabited α] {l:List α} {i:Nat} (h:i<l.length):nth l i=l[i]:=by simp [nth,h]
@[go_sem] theorem pG {α:Type} [Inhabited α] {f:α->PV} {l:List α} {S c n} (h0:0<=n) (h1:n<(l.length:Int)) :
  VV (some (none,S)) H (.p (.list c (l.map f))) (.p (.int k n))=if (f (nth l n.toNat)).cells.length=S then some (.lp (f (nth l n.toNat)) 0) else none:=by
 grind [QF,WY]
def EJ (ob:Obj) (S o off len tot:Nat) (n:Int):Option V:=match ob with
 | .elems S' xs=>if xs.length=tot/\S'=S then (if 0<=n/\n<len then some (.ep o (off+n.toNat) 0 tot) else none) else none
 | .cells _=>if S=1/\off=0/\len=tot/\0<=n/\n<len then some (.ptr o n.toNat) else none
 | _=>none
@[go_sem] theorem rO {S o off len tot n} :VV (some (none,S)) H (.sl o off len tot) (.p (.int k n))=EJ (oat H o) S o off len tot n:=Zk rfl rfl
@[go_sem] theorem ZcB {S xs o off} {len tot:Nat} {n:Int} (h0:0<=n) (h1:n<(len:Int)) (ht:xs.length=tot):EJ (.elems S xs) S o off len tot n=some (.ep o (off+n.toNat) 0 tot):=by
 grind [EJ]
@[go_sem] theorem nB {cs o} {len:Nat} {n:Int} (h0:0<=n) (h1:n<(len:Int)):EJ (.cells cs) 1 o 0 len len n=some (.ptr o n.toNat):=by
 grind [EJ]
@[go_sem] theorem pE {n} {m S:Nat} {x} (h0:0<=n) (h1:n<(m:Int)):VV (some (some m,S)) H x (.p (.int k n))=CR (some (n.toNat*S)) (YS H x) x:=by
 simp_all [VV,CR]
def N0 (H:List Obj) (D:Option TypeDesc) (x:V):Option PV:=match D,x with
 | some (.slice _),.p (.list _ xs)=>some (.int .i64 xs.length)
 | some (.slice _),.sl o _ len tot=>match oat H o with
  | .elems _ xs=>if xs.length=tot then some (.int .i64 len) else none
  | _=>none
 | some .string,.p (.str s)=>some (.int .i64 s.length)
 | some (.array n _),_=>some (.int .i64 n)
 | _,_=>none
@[go_sem] theorem Ziv {x} :Tb P H t x=N0 H (P.underlying t) x:=Zk rfl rfl
@[go_sem] theorem rP {e c xs} :N0 H (some (.slice e)) (.p (.list c xs))=some (.int .i64 (List.length xs)):=Zk rfl rfl
def Zha (ob:Obj) (len tot:Nat):Option PV:=match ob with | .elems _ xs=>if xs.length=tot then some (.int .i64 len) else none | _=>none
@[go_sem] theorem ZeJ {e o off len tot} :N0 H (some (.slice e)) (.sl o off len tot)=Zha (oat H o) len tot:=Zk rfl rfl
@[go_sem] theorem ZaS {S xs len tot} :Zha (.elems S xs) len tot=if xs.length=tot then some (.int .i64 len) else none:=Zk rfl rfl
@[go_sem] theorem ZbC {s} :N0 H (some .string) (.p (.str s))=some (.int .i64 (List.length s)):=Zk rfl rfl
@[go_sem] theorem ZiC {b} :aun .not (.p (.bool b))=some (.bool (!b)):=Zk rfl rfl
@[go_sem] theorem ZiB {n} :aun .neg (.p (.int k n))=some (.int k (k.wrap (0-n))):=Zk rfl rfl
def S5 (D E:Option TypeDesc) (x:V):Option PV:=match D,E,x with
 | some _,some (.int k),.p (.int _ n)=>some (.int k (k.wrap n))
 | some (.int _),some .string,.p (.int _ n)=>if 0<=n/\n<128 then some (.str [UInt8.ofNat n.toNat]) else none
 | some .string,some .string,.p (.str b)=>some (.str b)
 | _,_,_=>none
@[go_sem] theorem ZeH {s x} :Ii P s t x=S5 (P.underlying s) (P.underlying t) x:=Zk rfl rfl
@[go_sem] theorem rL {D k' n} :S5 (some D) (some (.int k)) (.p (.int k' n))=some (.int k (k.wrap n)):=by rfl
def GQ (E:Option TypeDesc) (H:List Obj) (x:V):Option PV:=match E,x with
  | some (.int .u8),.p (.list _ xs)=>(YB xs).map .str
  | some (.int .u8),.sl o off len tot=>match oat H o with
   | .elems _ xs=>if xs.length=tot/\off+len<=tot then (YB ((xs.take (off+len)).drop off)).map .str else none
   | _=>none
  | _,_=>none
def GP (P:Program) (H:List Obj) (D E:Option TypeDesc) (x:V):Option PV:=match D,E with
 | some (.slice e),some .string=>GQ (P.underlying e) H x
 | _,_=>none
@[go_sem] theorem Zbm {s x} :BR P H s t x=GP P H (P.underlying s) (P.underlying t) x:=Zk rfl rfl
@[go_sem] theorem pA {E x} :GP P H (some (.int k)) E x=none:=Zk rfl rfl
@[go_sem] theorem gO {e x} :GP P H (some (.slice e)) (some .string) x=GQ (P.underlying e) H x:=Zk rfl rfl
def fL (ob:Obj) (off len tot:Nat):Option PV:=match ob with | .elems _ xs=>if xs.length=tot/\off+len<=tot then (YB ((xs.take (off+len)).drop off)).map .str else none | _=>none
@[go_sem] theorem rI {o off len tot} :GQ (some (.int .u8)) H (.sl o off len tot)=fL (oat H o) off len tot:=Zk rfl rfl
@[go_sem] theorem mX {S xs off len tot} :fL (.elems S xs) off len tot=if xs.length=tot/\off+len<=tot then (YB ((xs.take (off+len)).drop off)).map .str else none:=Zk rfl rfl
@[go_sem] theorem pW : YB []=some []:=Zk rfl rfl
@[go_sem] theorem jK {n r} :YB (.int .u8 n::r)=(YB r).map (UInt8.ofNat n.toNat:: ·):=by rfl
@[go_sem] theorem ZjT {a b:Int} (h:0<=a):a.tdiv b=a / b:=Int.tdiv_eq_ediv_of_nonneg h
@[go_sem] theorem Zj7 {a b:Int} (h:0<=a):a.tmod b=a%b:=Int.tmod_eq_emod_of_nonneg h
@[go_sem] theorem Zmy {cs} :vc H (.p (.agg cs))=if cs.all (·.one)=true then some (cs.map .p) else none:=by rfl
@[go_sem] theorem Zj8 {cs} :vc H (.agg cs)=if cs.all (V.one H)=true then some cs else none:=by rfl
@[go_sem] theorem Zmz {n} :vc H (.p (.int k n))=some [.p (.int k n)]:=Zk rfl rfl
@[go_sem] theorem Zj9 {n} :vc H (.p (.bool n))=some [.p (.bool n)]:=Zk rfl rfl
@[go_sem] theorem ZmA {n} :vc H (.p (.str n))=some [.p (.str n)]:=Zk rfl rfl
@[go_sem] theorem Zka {c xs} :vc H (.p (.list c xs))=some [.p (.list c xs)]:=Zk rfl rfl
@[go_sem] theorem ZnI {o off len tot} :vc H (.sl o off len tot)=if bP (oat H o) tot=true then some [.sl o off len tot] else none:=Zk rfl rfl
@[go_sem] theorem ZmB {x} :V.one H (.p x)=x.one:=Zk rfl rfl
@[go_sem] theorem Zkc {o} :V.one H (.mp o)=OG (oat H o):=Zk rfl rfl
@[go_sem] theorem ZnH {o} :vc H (.mp o)=if OG (oat H o)=true then some [.mp o] else none:=Zk rfl rfl
@[go_sem] theorem Zcj {es} :OG (.map es)=true:=Zk rfl rfl
@[go_sem] theorem ZjA {α:Type} {n} {cs:List α} :Jq ([]:List α) n cs= []:=by rfl
@[go_sem] theorem Zhc {α:Type} {x c:α} {l cs} :Jq (x::l) 0 (c::cs)=c::Jq l 0 cs:=by simp [Jq]
@[go_sem] theorem ZcC {α:Type} {x:α} {l} :Jq (x::l) 0 []=x::l:=by simp [Jq]
@[go_sem] theorem Zhb {α:Type} {x:α} {l cs n} :Jq (x::l) (n+1) cs=x::Jq l n cs:=by simp [Jq]
def eU (H:List Obj) (o:Nat) (ob:Obj) (off n:Nat) (cs:List V):Option (List Obj):=match ob with
 | .cells old=>if off+n<=old.length then some (Ei H o (.cells (Jq old off cs))) else none
 | _=>none
@[go_sem] theorem sQ {n o off cs} :K2 H n (.ptr o off) cs=if cs.length=n then eU H o (oat H o) off n cs else none:=Zk rfl rfl
@[go_sem] theorem mK {o old off n cs} :eU H o (.cells old) off n cs=if off+n<=old.length then some (Ei H o (.cells (Jq old off cs))) else none:=Zk rfl rfl
def MR (H:List Obj) (o:Nat) (ob:Obj) (i j tot n:Nat) (ps:Option (List PV)):Option (List Obj):=match ob,ps with
 | .elems S xs,some ps=>if xs.length=tot/\i<xs.length/\j+n<=(UT xs i).cells.length/\ps.all (·.one)=true/\(UT xs i).cells.all (·.one)=true then
   some (Ei H o (.elems S (xs.set i (gZ (UT xs i) (Jq (UT xs i).cells j ps))))) else none
 | _,_=>none
@[go_sem] theorem ZbX {n o i j tot cs} :K2 H n (.ep o i j tot) cs=if cs.length=n then MR H o (oat H o) i j tot n (UO cs) else none:=Zk rfl rfl
@[go_sem] theorem tZ {α:Type} [Inhabited α] {f:α->PV} {l:List α} {o S i j tot n ps} (ht:l.length=tot) (hi:i<l.length):MR H o (.elems S (l.map f)) i j tot n (some ps) =
  if j+n<=(f (nth l i)).cells.length/\ps.all (·.one)=true/\(f (nth l i)).cells.all (·.one)=true then
   some (Ei H o (.elems S ((l.map f).set i (gZ (f (nth l i)) (Jq (f (nth l i)).cells j ps))))) else none:=by
 simp_all [MR,WY]
@[go_sem] theorem Zjo {a cs} :gZ (.agg a) cs= .agg cs:=Zk rfl rfl
@[go_sem] theorem Zjp {n c l} :gZ (.int k n) (c::l)=c:=Zk rfl rfl
@[go_sem] theorem Zgx {n c l} :gZ (.bool n) (c::l)=c:=Zk rfl rfl
@[go_sem] theorem Zbl {l} :Do P H t l=match Xt P t,ER P t with
 | some zs,some pl=>(Jr H pl (zs.map .p) l).map mkA
 | _,_=>none:=Zk rfl rfl
@[go_sem] theorem Zbt {pl cs} :Jr H pl cs []=some cs:=by simp [Jr]
def S7 (H:List Obj) (pl:Nat->Option (Nat×Nat)) (cs:List V) (r:List (Nat×V)) (q:Option (Nat×Nat)) (vs:Option (List V)):Option (List V):=match q,vs with
 | some (off,sz),some vs=>if vs.length=sz/\off+sz<=cs.length then Jr H pl (Jq cs off vs) r else none
 | _,_=>none
@[go_sem] theorem rN {pl cs i v r} :Jr H pl cs ((i,v)::r)=S7 H pl cs r (pl i) (vc H v):=Zk rfl rfl
@[go_sem] theorem pC {pl cs off sz vs r} :S7 H pl cs r (some (off,sz)) (some vs)=if vs.length=sz/\off+sz<=cs.length then Jr H pl (Jq cs off vs) r else none:=Zk rfl rfl
@[go_sem] theorem Zle {l i} :Em l i=l[i]? :=Zk rfl rfl
@[go_sem] theorem Zld {n i} :plA n i=some (i*n,n):=Zk rfl rfl
end vals
end Go.AM
namespace Go.AM
open Go.RowKit
section
variable {P : Program} {H : List Obj} {k : IntKind} {t u : TypeId} {fr : List V}
def Tc (S:Option Nat) (H:List Obj) (n:Nat) (l:List (Nat×V)):Option (V×List Obj):=match S with
 | some S=>if n=l.length/\n*S<=16777216/\0<S then (Ql H S 0 l).map fun xs=>(.sl H.length 0 n n,H++ [.elems S xs]) else none
 | none=>none
@[go_sem] theorem ZeO {n l} :Wg P (.buildSlice t n (List.toArray l)) fr H=Tc (U3 P t) H n (l.map fun x=>(x.1,ev fr x.2)):=by
 grind [Wg,U3,Tc,Mu]
@[go_sem] theorem rQ {S n l} :Tc (some S) H n l=if n=l.length/\n*S<=16777216/\0<S then (Ql H S 0 l).map fun xs=>(.sl H.length 0 n n,H++ [.elems S xs]) else none:=Zk rfl rfl
@[go_sem] theorem Zgt {S n} :Ql H S n []=some []:=by simp [Ql]
@[go_sem] theorem Zcp {S n i x r} :Ql H S n ((i,.p x)::r)=if i=n then if x.cells.length=S/\x.cells.all (·.one)=true then (Ql H S (n+1) r).map (x:: ·) else none else none:=by rfl
@[go_sem] theorem Zje {S n i f r} :Ql H S n ((i,.fn (.func f) [] [])::r)=if i=n then if 1=S then (Ql H S (n+1) r).map (.fn f:: ·) else none else none:=by simp [Ql,pvo,PV.cells,PV.one]
def KK (P:Program) (t:TypeId):Option (Nat×Nat):=match P.underlying t with
 | some (.slice e)=>match Yx P e,zval P e,(P.info? e).map (·.bytes) with
  | some S,some z,some by'=>if 0<S/\z.cells.length=S/\z.cells.all (·.one)=true/\by'≠0 then some (S,by') else none
  | _,_,_=>none
 | _=>none
theorem Ir {S by'} (h:KK P t=some (S,by')): ∃e z,P.underlying t=some (.slice e)/\Yx P e=some S/\zval P e=some z/\(P.info? e).map (·.bytes)=some by'/\0<S/\z.cells.length=S/\z.cells.all (·.one)=true/\by'≠0:=by
 unfold KK at h
 grind
def Wo (D:Option TypeDesc) (H:List Obj) (y:V):Option (List PV):=match D,y with
 | some (.slice _),.p (.list _ ys)=>some ys
 | some (.slice _),.sl o off len tot=>match oat H o with
  | .elems _ xs=>if xs.length=tot/\off+len<=tot then some ((xs.take (off+len)).drop off) else none
  | _=>none
 | some .string,.p (.str s)=>some (s.map fun b=> .int .u8 b.toNat)
 | _,_=>none
def fR (ob:Obj) (off len tot:Nat):Option (List PV):=match ob with | .elems _ xs=>if xs.length=tot/\off+len<=tot then some ((xs.take (off+len)).drop off) else none | _=>none
@[go_sem] theorem sE {e c ys} :Wo (some (.slice e)) H (.p (.list c ys))=some ys:=Zk rfl rfl
@[go_sem] theorem ZeY {e o off len tot} :Wo (some (.slice e)) H (.sl o off len tot)=fR (oat H o) off len tot:=Zk rfl rfl
theorem L9 {S xs n} (h:List.length xs=n):fR (.elems S xs) 0 n n=some xs:=by grind [fR]
def MA (H:List Obj) (F:Option (Nat×Nat)) (ys:Option (List PV)):Option (V×List Obj):=match F,ys with
 | some (S,by'),some ys=>if Bh S ys=true/\ys.length*by'<=140737488355328/\ys.length<=140737488355328 then some (.sl H.length 0 ys.length ys.length,H++ [.elems S ys]) else none
 | _,_=>none
def Uu (H:List Obj) (F:Option (Nat×Nat)) (ob:Obj) (o n:Nat) (ys:Option (List PV)):Option (V×List Obj):=match F,ob,ys with
 | some (S,by'),.elems S' xs,some ys=>if S'=S/\xs.length=n/\Bh S ys=true/\(n+ys.length)*by'<=140737488355328/\n+ys.length<=140737488355328 then
   some (.sl o 0 (n+ys.length) (n+ys.length),Ei H o (.elems S (xs++ys))) else none
 | _,_,_=>none
theorem NY {z x y ys e S by'} (h1:P.underlying t=some (.slice e)) (h2:Yx P e=some S) (h3:zval P e=some z) (h4:(P.info? e).map (·.bytes)=some by') (h5:Fa P H u y=some ys) (h6:0<S/\z.cells.length=S/\z.cells.all (·.one)=true/\by'≠0) :
  Vf P H t u x y=if Bh S ys=true then (match x with
    | .p (.list cl xs)=>if cl=true/\Bh S xs=true/\(xs= []\/0<ys.length)/\(xs.length+ys.length)*by'<=140737488355328/\xs.length+ys.length<=140737488355328 then
      some (.sl H.length 0 (xs.length+ys.length) (xs.length+ys.length),H++ [.elems S (xs++ys)]) else none
    | .sl o off len tot=>match oat H o with
     | .elems S' xs=>if S'=S/\off=0/\len=tot/\xs.length=tot/\(tot+ys.length)*by'<=140737488355328/\tot+ys.length<=140737488355328 then
       some (.sl o 0 (tot+ys.length) (tot+ys.length),Ei H o (.elems S (xs++ys))) else none
     | _=>none
    | _=>none) else none:=by
 simp only [Vf,h1,h2,h3,h4,h5]
 grind
theorem Dn {y F} (hF:KK P t=some F):Vf P H t u (.p (.list true [])) y=MA H (some F) (Wo (P.underlying u) H y):=by
 obtain ⟨S,by'⟩:=F;obtain ⟨e,z,h1,h2,h3,h4,h6⟩:=Ir hF;have e1:Wo (P.underlying u) H y=Fa P H u y:=Zk rfl rfl;rw [e1]
 cases h5:Fa P H u y with
 | none=>grind [Vf,MA]
 | some ys =>
  grind [NY,MA,Bh]
theorem YF {y F o n} (hF:KK P t=some F):Vf P H t u (.sl o 0 n n) y=Uu H (some F) (oat H o) o n (Wo (P.underlying u) H y):=by
 obtain ⟨S,by'⟩:=F;obtain ⟨e,z,h1,h2,h3,h4,h6⟩:=Ir hF;have e1:Wo (P.underlying u) H y=Fa P H u y:=Zk rfl rfl;rw [e1]
 cases h5:Fa P H u y with
 | none =>
  grind [Vf,Uu]
 | some ys =>
  rw [NY h1 h2 h3 h4 h5 h6];simp only [Uu]
  grind
@[go_sem] theorem ZbN {S b ys} :MA H (some (S,b)) (some ys)=if Bh S ys=true/\ys.length*b<=140737488355328/\ys.length<=140737488355328 then some (.sl H.length 0 ys.length ys.length,H++ [.elems S ys]) else none:=Zk rfl rfl
theorem FG {S b xs ys o n} (hn:xs.length=n) (hb:(n+ys.length)*b<=140737488355328) (hb2:n+ys.length<=140737488355328):Uu H (some (S,b)) (.elems S xs) o n (some ys)=if Bh S ys=true then some (.sl o 0 (n+ys.length) (n+ys.length),Ei H o (.elems S (xs++ys))) else none:=by
 simp_all [Uu]
@[go_sem] theorem Zhd {α:Type} {S} {f:α->PV} {l:List α} :fR (.elems S (l.map f)) 0 l.length l.length=some (l.map f):=L9 Zb
@[go_sem] theorem Zhe {S x} :fR (.elems S [x]) 0 1 1=some [x]:=L9 Zb
@[go_sem] theorem ZbP {α:Type} {S b o x} {f:α->PV} {l:List α} (hb:(l.length+1)*b<=140737488355328) (hb2:l.length+1<=140737488355328):Uu H (some (S,b)) (.elems S (l.map f)) o l.length (some [x])=if Bh S [x]=true then some (.sl o 0 (l.length+1) (l.length+1),Ei H o (.elems S (l.map f++ [x]))) else none :=
 FG Zb Za Za
@[go_sem] theorem ZbQ {α β:Type} {S b o} {f:α->PV} {g:β->PV} {l:List α} {m:List β} (hb:(l.length+m.length)*b<=140737488355328) (hb2:l.length+m.length<=140737488355328):Uu H (some (S,b)) (.elems S (l.map f)) o l.length (some (m.map g))=if Bh S (m.map g)=true then some (.sl o 0 (l.length+m.length) (l.length+m.length),Ei H o (.elems S (l.map f++m.map g))) else none:=by
 grind [FG]
@[go_sem] theorem Zjs {S} :Bh S []=true:=Zk rfl rfl
@[go_sem] theorem ZgF {S x l} :Bh S (x::l)=((x.cells.length==S)&&x.cells.all (·.one)&&Bh S l):=by rfl
theorem Q4 {α:Type} {S} {f:α->PV} {l:List α} (h: ∀x,Zat S (f x)=true):Bh S (l.map f)=true:=by grind [Bh]
def OP (P:Program) (t:TypeId):Option (Nat×Nat×PV):=match P.underlying t with
  | some (.slice e)=>match Yx P e,zval P e,(P.info? e).map (·.bytes) with
   | some S,some z,some by'=>if z.cells.all (·.one)=true/\z.cells.length=S/\0<S then some (S,by',z) else none
   | _,_,_=>none
  | _=>none
end
def Ws : Nat->List Nat->List V->List V
 | _,_,[]=> []
 | i,[],_::l=> .junk::Ws (i+1) [] l
 | i,k::ks,x::l=>if i=k then x::Ws (i+1) ks l else .junk::Ws (i+1) (k::ks) l
def KP : List (Nat×V)->List V->List V
 | [],fr=>fr
 | (i,v)::r,fr=>KP r (pt fr i v)
@[go_sem] theorem Zck {i ks} :Ws i ks []= []:=by rfl
@[go_sem] theorem Zak {i x l} :Ws i [] (x::l)= .junk::Ws (i+1) [] l:=by simp [Ws]
@[go_sem] theorem Zaj {i k ks x l} :Ws i (k::ks) (x::l)=if i=k then x::Ws (i+1) ks l else .junk::Ws (i+1) (k::ks) l:=by simp [Ws]
@[go_sem] theorem ZmK : ((0:Nat):Int)=0:=Zk rfl rfl
@[go_sem] theorem ZmL {n:Nat} :((n+1:Nat):Int)=(n:Int)+1:=Zk rfl rfl
@[go_sem] theorem ZlM {n:Nat} :((n:Int)).toNat=n:=Zk rfl rfl
@[go_sem] theorem Zg7 {fr} :KP [] fr=fr:=by simp [KP]
@[go_sem] theorem ZcA {i v r fr} :KP ((i,v)::r) fr=KP r (pt fr i v):=by simp [KP]
@[go_sem] theorem Ziz {p q:Prop} [Decidable p] [Decidable q]:(decide p&&decide q)=decide (p/\q):=Zb
@[go_sem] theorem Zay {p q:Prop} [Decidable p] [Decidable q]:(decide p||decide q)=decide (p\/q):=Zb
theorem Zl {P c fr H Q} {I:Type} (ks:List Nat) (sets:I->List (Nat×V)) (hs:I->List Obj) (R:I->Prop) (μ:I->Nat) (i0:I) (hR:R i0) (h0:Weak H.length fr H (KP (sets i0) (Ws 0 ks fr)) (hs i0))
  (round: ∀i,R i->QJ [] P c (KP (sets i) (Ws 0 ks fr)) (hs i) (Qv (fun fr' H'=> ∃i',R i'/\μ i'<μ i/\Weak H.length fr' H' (KP (sets i') (Ws 0 ks fr)) (hs i')) Q)):AWP P (.loop c) fr H Q :=
 Iz R (fun i=>KP (sets i) (Ws 0 ks fr)) hs μ i0 hR h0 fun i hi=>Zf [] _ _ _ _ (round i hi)
theorem ZT {P c fr H Q} (cuts:List Nat) {I:Type} (ks:List Nat) (sets:I->List (Nat×V)) (hs:I->List Obj) (R:I->Prop) (μ:I->Nat) (i0:I) (hR:R i0) (h0:Weak H.length fr H (KP (sets i0) (Ws 0 ks fr)) (hs i0))
  (round: ∀i,R i->QJ cuts P c (KP (sets i) (Ws 0 ks fr)) (hs i) (Qv (fun fr' H'=> ∃i',R i'/\μ i'<μ i/\Weak H.length fr' H' (KP (sets i') (Ws 0 ks fr)) (hs i')) Q)):AWP P (.loop c) fr H Q :=
 Iz R (fun i=>KP (sets i) (Ws 0 ks fr)) hs μ i0 hR h0 fun i hi=>Zf cuts _ _ _ _ (round i hi)
theorem ZC {P x y fr H Q} {I:Type} (ks:List Nat) (sets:I->List (Nat×V)) (hs:I->List Obj) (R:I->Prop)
  (h:QJ [] P x fr H (Qv (fun fr' H'=> ∃i,R i/\Weak H.length fr' H' (KP (sets i) (Ws 0 ks fr)) (hs i)) Q)) (k: ∀i,R i->AWP P y (KP (sets i) (Ws 0 ks fr)) (hs i) Q):AWP P (.seq x y) fr H Q :=
 fun F ι a w hr hf=>by
 refine wp_seq (wp_mono (Zf [] _ _ _ _ h F ι a w hr hf) ?_);rintro e a' w' ⟨fr',H',ι',q,g,f⟩
 cases e with
 | normal =>
  obtain ⟨i,hi,hw⟩:=q;obtain ⟨ι2,r2,f2,g2⟩:=hw F ι' a' w' g.rel f;refine wp_mono (k i hi F ι2 a' w' r2 f2) ?_;rintro e2 a2 w2 ⟨fr2,H2,ι3,q2,g3,f3⟩;exact ⟨fr2,H2,ι3,q2,(g2 H ι w (Zx _) g).trans g3,f3⟩
 | exit id=>exact ⟨fr',H',ι',q,g,f⟩
 | goto l=>exact ⟨fr',H',ι',q,g,f⟩
 | ret=>exact ⟨fr',H',ι',q,g,f⟩
 | panic ch=>exact ⟨fr',H',ι',q,g,f⟩
 | outgrown=>exact ⟨fr',H',ι',q,g,f⟩
@[go_sem] theorem Zie {H n x} :Fy H n x .junk=True:=by simp [Fy]
@[go_sem] theorem ZmE {H n} {x y:PV} :Fy H n (.p x) (.p y)=(y=x):=by simp [Fy,refB,kU]
@[go_sem] theorem Zkh {H n o off len tot o' off' len' tot'} :Fy H n (.sl o off len tot) (.sl o' off' len' tot')=((o'=o/\off'=off/\len'=len/\tot'=tot)/\o<n):=by simp [Fy,refB]
@[go_sem] theorem Zif {H n o off o' off'} :Fy H n (.ptr o off) (.ptr o' off')=((o'=o/\off'=off)/\o<n):=by simp [Fy,refB]
@[go_sem] theorem Zkd {H n} :Pk H n [] []=True:=by simp [Pk]
@[go_sem] theorem Zib {H n x l x' l'} :Pk H n (x::l) (x'::l')=(Fy H n x x'/\Pk H n l l'):=by simp [Pk]
@[go_sem] theorem Zke {H n l} :Ic H n l []=True:=by simp [Ic]
@[go_sem] theorem Zic {H n x l x' l'} :Ic H n (x::l) (x'::l')=(Dl H n x x'/\Ic H n l l'):=by simp [Ic]
@[go_sem] theorem Zdq {H n cs cs'} :Dl H n (.cells cs) (.cells cs')=Pk H n cs cs':=by simp [Dl]
@[go_sem] theorem Zdr {H n S S' xs xs'} :Dl H n (.elems S xs) (.elems S' xs')=(S=S'/\xs=xs'):=by simp [Dl]
@[go_sem] theorem Zkf {H n es es2} :Dl H n (.map es) (.map es2)=(es=es2):=by simp [Dl]
@[go_sem] theorem ZmD {H n o o2} :Fy H n (.mp o) (.mp o2)=(o2=o/\o<n):=by simp [Fy,refB,kU]
@[go_sem] theorem Zid {H n} :Dl H n .dead .dead=True:=by simp [Dl]
theorem Weak.mk {n0 fr H fr' H'} (h:n0<=H'.length/\H'.length<=H.length/\Pk H H'.length fr fr'/\Ic H H'.length H H'):Weak n0 fr H fr' H':=Weak.of h.1 h.2.2.1 h.2.2.2 h.2.1
theorem wk {n0 fr H fr' H'} (h:n0<=H'.length/\H'.length<=H.length/\Pk H H'.length fr fr'/\Ic H H'.length H H':=by simp (disch:=omega) only [go_sem,seval]):Weak n0 fr H fr' H':=Weak.mk h
theorem we {n0 x H' a b} (h:n0<=List.length b/\List.length b<=H'.length/\Pk H' (List.length b) [x] [a]/\Ic H' (List.length b) H' b:=by simp (disch:=omega) only [go_sem,seval]): ∃y H'',Weak n0 [x] H' [y] H''/\y=a/\H''=b:=⟨_,_,Weak.mk h,rfl,rfl⟩
attribute [go_sem] List.length_cons List.length_nil List.cons_append List.nil_append List.append_nil List.map_cons List.map_nil List.drop_zero List.drop_succ_cons List.drop_nil List.take_succ_cons List.take_zero List.take_nil List.all_cons List.all_nil
 XG W3 and_self true_and and_true Bc Kr List.getElem?_cons_zero C0 UC Wl Bool.and_self ZM if_true Yq Vp Kx IntWalk.i64_in IntWalk.i32_in IntWalk.u8_in IntWalk.u64_in IntWalk.u32_in
 beq_self_eq_true Ac List.replicate_zero Bool.or_true Bool.true_or Bool.or_false Bool.false_or VY Q3
end Go.AM
namespace Go.AM
open Go.RowKit
theorem RP.weaker {X X':Nat->Prop} {w x v} (h:RP X w x v) (hx: ∀b,X' b->X b):RP X' w x v:=h.ext (w':=w) fun _ hb hs=>⟨fun h=>hb (hx _ h),hs,rfl⟩
theorem Good.forget {F w H' ι' w'} (he:Env F [] w) (hf: ∀b,F b->b<w.heap.size) (g:Good F [] [] w H' ι' w'):Good F [] [] w [] [] w' :=
 .up he ⟨⟨rfl,fun b hb=>by have:=hf b hb;have:=g.size;omega,fun i j b hi=>by simp at hi,fun i b hi=>by simp at hi,fun o cs ho=>by simp at ho,fun o S xs ho=>by simp at ho,fun o es ho=>by simp at ho,fun o T E r bs ho=>by simp at ho⟩,
  g.os,g.tape,g.output,fun b c t h=>(g.shape b c t h).imp (fun h=>absurd h.1 Zb) id,g.size,g.keep,fun _ _ h=>h,fun o ob ho=>by simp at ho⟩
theorem ACalls.pure {P g args} {y:PV} (h:ACalls P g args [] fun x _=>x= .p y):ACalls P g args [] fun x H'=>x= .p y/\H'= []:=by
 refine ⟨h.1,fun F ι w vs hr hv=> ?_⟩;have hι:ι= []:=Yb hr.len;subst hι;refine (h.2 F [] w vs hr hv).mono ?_;rintro e w' ⟨x,H',ι',v,rfl,rfl,gd,rv⟩
 cases rv with | p _ _ rp =>
 exact ⟨_,[],[],v,rfl,⟨rfl,rfl⟩,gd.forget hr.env hr.fin,.p _ _ (rp.weaker fun b hb=> .inl (by rcases hb with hb | hb;exact hb;simp at hb))⟩
theorem DQ {F:Nat->Prop} {w w':World} {H':List Obj} {ι':List (Option Nat)} {v:Value} {o S n:Nat} {xs:List PV} (hF: ∀b,F b->b<w.heap.size) (hn:xs.length=n) (ho:oat H' o= .elems S xs)
  (gd:Good F [] [] w H' ι' w') (rv:RV F H' ι' w' (.sl o 0 n n) v): ∃ι2,Good F [] [] w [.elems S xs] ι2 w'/\RV F [.elems S xs] ι2 w' (.sl 0 0 n n) v:=by
 have hH:=Z2 ho Zb;have hlt:=(ZK.1 hH).1
 have hlt':o<ι'.length:=by rw [gd.rel.len];exact hlt
 have hι':ι'[o]? =some (ι'[o]):=by simp [hlt']
 have hget: ∀ {i:Nat} {q:Option Nat},[ι'[o]][i]? =some q->i=0/\ι'[o]? =some q:=fun {i q} h=>by
  grind
 have hown: ∀b,Own F [ι'[o]] b->Own F ι' b:=fun b hb=>by
  rcases hb with hb | hb
  ·exact .inl hb
  ·simp at hb;right;rw [hb];simp
 refine ⟨[ι'[o]],⟨⟨⟨rfl,fun b hb=> ?_,fun i j b hi hj=> ?_,fun i b hi=> ?_,fun o' cs ho'=> ?_,fun o' S' xs' ho'=> ?_,fun o' es ho'=>by grind,fun o' T E r bs ho'=>by grind⟩,gd.rel.env.le hown⟩,gd.os,gd.tape,gd.output,fun b c t h=>(gd.shape b c t h).imp (fun h=>absurd h.1 Zb) id,gd.size,gd.keep,fun b hb _ h=> ?_,fun o ob ho=>by simp at ho⟩,?_⟩
 ·have:=hF b hb;have:=gd.size;omega
 ·grind
 ·exact gd.rel.avo o b (hget hi).2
 ·grind
 ·cases o' with
  | zero =>
   simp at ho';obtain ⟨rfl,rfl⟩:=ho';rcases gd.rel.elm o _ _ hH with ⟨e1,e2⟩ | ⟨b,c,t,cap,e1,e2,e3,e4,e5,e6,e7⟩
   ·grind
   ·exact .inr ⟨b,c,t,cap,by grind,e2,e3,e4,e5,e6,fun i x j y hi hj=>(e7 i x j y hi hj).weaker hown⟩
  | succ i=>simp at ho'
 ·simp at h;exact gd.own b hb Zb (by rw [h];simp)
 ·cases rv with
  | slNil _ S2 a h1 h2 =>
   rw [hH] at h2;simp at h2;obtain ⟨rfl,rfl⟩:=h2;exact .slNil 0 S a (by grind) rfl
  | sl _ _ _ _ b S2 cap t xs2 c h1 h2 ht hw hcap hl hlen hm =>
   rw [hH] at h2;simp at h2;obtain ⟨rfl,rfl⟩:=h2;exact .sl 0 0 n n b S cap t xs c (by grind) rfl hn hw hcap hl hlen hm
  | slD _ _ _ _ _ h1=>grind
  | slS _ _ _ _ _ S2 xs2 h1 hne=>grind
  | slC _ _ _ _ _ _ hd=>grind
theorem ACalls.fresh {P g args} {S n:Nat} {xs:List PV} (hn:xs.length=n) (h:ACalls P g args [] fun x H'=> ∃o,x= .sl o 0 n n/\oat H' o= .elems S xs):ACalls P g args [] fun x H'=>x= .sl 0 0 n n/\H'= [.elems S xs]:=by
 refine ⟨h.1,fun F ι w vs hr hv=> ?_⟩;have hι:ι= []:=Yb hr.len;subst hι;refine (h.2 F [] w vs hr hv).mono ?_;rintro e w' ⟨x,H',ι',v,rfl,⟨o,rfl,ho⟩,gd,rv⟩;obtain ⟨ι2,g2,r2⟩:=DQ hr.fin hn ho gd rv
 grind
theorem ACalls.freshE {P g args} {α:Type} {S:Nat} {f:α->PV} {R:List α->Prop} (h:ACalls P g args [] fun x H'=> ∃l:List α,R l/\ ∃o,x= .sl o 0 l.length l.length/\oat H' o= .elems S (l.map f)) :
  ACalls P g args [] fun x H'=> ∃l:List α,R l/\x= .sl 0 0 l.length l.length/\H'= [.elems S (l.map f)]:=by
 refine ⟨h.1,fun F ι w vs hr hv=> ?_⟩;have hι:ι= []:=Yb hr.len;subst hι;refine (h.2 F [] w vs hr hv).mono ?_;rintro e w' ⟨x,H',ι',v,rfl,⟨l,hl,o,rfl,ho⟩,gd,rv⟩;obtain ⟨ι2,g2,r2⟩:=DQ hr.fin Zb ho gd rv
 grind
theorem ACalls.frozen {P g args} {S n:Nat} {xs:List PV} (hn:xs.length=n) (h:ACalls P g args [] fun x H'=>x= .sl 0 0 n n/\H'= [.elems S xs]):ACalls P g args [] fun x H'=>x= .p (.list false xs)/\H'= []:=by
 refine ⟨h.1,fun F ι w vs hr hv=> ?_⟩;have hι:ι= []:=Yb hr.len;subst hι;refine (h.2 F [] w vs hr hv).mono ?_;rintro e w' ⟨x,H',ι',v,rfl,⟨rfl,rfl⟩,gd,rv⟩;have hk:Keeps (Own F ι') w' (Own F []) w':=fun b hb hs=>⟨fun h=>hb (.inl (by rcases h with h | h;exact h;simp at h)),hs,rfl⟩
 have:=Ah (S:=S) (xs:=xs) (off:=0) (len:=n) (tot:=n) (Own F []) (fun b hb h=>by
  rcases h with h | h
  ·exact (gd.rel.avo 0 b hb).1 h
  ·simp at h) hk gd.rel rfl hn Za rv
 rw [XG,List.drop_zero,List.take_of_length_le Za] at this;exact ⟨_,[],[],v,rfl,⟨rfl,rfl⟩,gd.forget hr.env hr.fin,.p _ _ this⟩
theorem ACalls.frozenE {P g args} {α:Type} {S:Nat} {f:α->PV} {R:List α->Prop} (h:ACalls P g args [] fun x H'=> ∃l:List α,R l/\x= .sl 0 0 l.length l.length/\H'= [.elems S (l.map f)]) :
  ACalls P g args [] fun x H'=> ∃l:List α,R l/\x= .p (.list false (l.map f))/\H'= []:=by
 refine ⟨h.1,fun F ι w vs hr hv=> ?_⟩;have hι:ι= []:=Yb hr.len;subst hι;refine (h.2 F [] w vs hr hv).mono ?_;rintro e w' ⟨x,H',ι',v,rfl,⟨l,hl,rfl,rfl⟩,gd,rv⟩;have hk:Keeps (Own F ι') w' (Own F []) w':=fun b hb hs=>⟨fun h=>hb (.inl (by rcases h with h | h;exact h;simp at h)),hs,rfl⟩
 have:=Ah (S:=S) (xs:=l.map f) (off:=0) (len:=l.length) (tot:=l.length) (Own F []) (fun b hb h=>by
  rcases h with h | h
  ·exact (gd.rel.avo 0 b hb).1 h
  ·simp at h) hk gd.rel rfl Zb Za rv
 rw [XG,List.drop_zero,List.take_of_length_le Zb] at this;exact ⟨_,[],[],v,rfl,⟨l,hl,rfl,rfl⟩,gd.forget hr.env hr.fin,.p _ _ this⟩
theorem ACalls.useV {P g args} {α:Type} {f:α->PV} {R:α->Prop} {H:List Obj} {K:V->List Obj->Prop} (h:ACalls P g args [] fun x H'=> ∃a:α,R a/\x= .p (f a)/\H'= []) (k: ∀a,R a->K (.p (f a)) H) (ha:Xe 0 args=true:=by rfl):ACalls P g args H K:=by
 refine (h.behind ha H).mono ?_;rintro x H' ⟨y',H1,⟨a,ra,rfl,rfl⟩,rfl,rfl⟩
 grind [shV]
theorem ACalls.useE {P g args} {α:Type} {S:Nat} {f:α->PV} {R:List α->Prop} {H:List Obj} {K:V->List Obj->Prop} (h:ACalls P g args [] fun x H'=> ∃l:List α,R l/\x= .sl 0 0 l.length l.length/\H'= [.elems S (l.map f)])
  (k: ∀l,R l->K (.sl H.length 0 l.length l.length) (H++ [.elems S (l.map f)])) (ha:Xe 0 args=true:=by rfl):ACalls P g args H K:=by
 refine (h.behind ha H).mono ?_;rintro x H' ⟨y',H1,⟨l,rl,rfl,rfl⟩,rfl,rfl⟩
 grind [shV,shO]
theorem ACalls.use {P g args} {y:PV} {H:List Obj} {K:V->List Obj->Prop} (h:ACalls P g args [] fun x H'=>x= .p y/\H'= []) (k:K (.p y) H) (ha:Xe 0 args=true:=by rfl):ACalls P g args H K:=by
 refine (h.behind ha H).mono ?_;rintro x H' ⟨y',H1,⟨rfl,rfl⟩,rfl,rfl⟩
 grind [shV]
theorem ACalls.useF {P g args} {S n:Nat} {xs:List PV} {H:List Obj} {K:V->List Obj->Prop} (h:ACalls P g args [] fun x H'=>x= .sl 0 0 n n/\H'= [.elems S xs]) (k:K (.sl H.length 0 n n) (H++ [.elems S xs])) (ha:Xe 0 args=true:=by rfl):ACalls P g args H K:=by
 refine (h.behind ha H).mono ?_;rintro x H' ⟨y',H1,⟨rfl,rfl⟩,rfl,rfl⟩
 grind [shV,shO]
theorem Zd {P:Program} {g:FuncId} {fn:Func} {c:Code} {args:List V} {y:PV} (hf:P.funcs[g]? =some fn) (hb:fn.body=some c) (hg:Zi P g)
  (h:QJ [] P c (args++List.replicate (fn.ntmps-args.length) .junk) [] (Jp P fn.results.toList fun x _=>x= .p y)):ACalls P g args [] fun x H'=>x= .p y/\H'= [] :=
 (X8 hf hb hg (Zf [] _ _ _ _ h)).pure
theorem QB (cuts:List Nat) {P:Program} {g:FuncId} {fn:Func} {c:Code} {args:List V} {y:PV} (hf:P.funcs[g]? =some fn) (hb:fn.body=some c) (hg:Zi P g)
  (h:QJ cuts P c (args++List.replicate (fn.ntmps-args.length) .junk) [] (Jp P fn.results.toList fun x _=>x= .p y)):ACalls P g args [] fun x H'=>x= .p y/\H'= [] :=
 (X8 hf hb hg (Zf cuts _ _ _ _ h)).pure
theorem As {P:Program} {g:FuncId} {fn:Func} {c:Code} {args:List V} {S n:Nat} {xs:List PV} (hn:xs.length=n) (hf:P.funcs[g]? =some fn) (hb:fn.body=some c) (hg:Zi P g)
  (h:QJ [] P c (args++List.replicate (fn.ntmps-args.length) .junk) [] (Jp P fn.results.toList fun x H'=> ∃o,x= .sl o 0 n n/\oat H' o= .elems S xs)):ACalls P g args [] fun x H'=>x= .sl 0 0 n n/\H'= [.elems S xs] :=
 (X8 hf hb hg (Zf [] _ _ _ _ h)).fresh hn
theorem E9 (cuts:List Nat) {P:Program} {g:FuncId} {fn:Func} {c:Code} {args:List V} {S n:Nat} {xs:List PV} (hn:xs.length=n) (hf:P.funcs[g]? =some fn) (hb:fn.body=some c) (hg:Zi P g)
  (h:QJ cuts P c (args++List.replicate (fn.ntmps-args.length) .junk) [] (Jp P fn.results.toList fun x H'=> ∃o,x= .sl o 0 n n/\oat H' o= .elems S xs)):ACalls P g args [] fun x H'=>x= .sl 0 0 n n/\H'= [.elems S xs] :=
 (X8 hf hb hg (Zf cuts _ _ _ _ h)).fresh hn
theorem Xa (cuts:List Nat) {P:Program} {g:FuncId} {fn:Func} {c:Code} {args:List V} {α:Type} {S:Nat} {f:α->PV} {R:List α->Prop} (hf:P.funcs[g]? =some fn) (hb:fn.body=some c) (hg:Zi P g)
  (h:QJ cuts P c (args++List.replicate (fn.ntmps-args.length) .junk) [] (Jp P fn.results.toList fun x H'=> ∃l:List α,R l/\ ∃o,x= .sl o 0 l.length l.length/\oat H' o= .elems S (l.map f))):ACalls P g args [] fun x H'=> ∃l:List α,R l/\x= .sl 0 0 l.length l.length/\H'= [.elems S (l.map f)] :=
 (X8 hf hb hg (Zf cuts _ _ _ _ h)).freshE
theorem Weak.ofNil {n0 fr H fr' H'} (t S:Nat) (h:gt fr t= .p (.list true [])) (hn:n0<=H.length) (k:Weak n0 (pt fr t (.sl H.length 0 0 0)) (H++ [.elems S []]) fr' H'):Weak n0 fr H fr' H' :=
 (Weak.nil t S h hn).trans k
end Go.AM
namespace Go.AM
open Go.RowKit
section
variable {P : Program} {H : List Obj} {t : TypeId} {fr : List V}
def Dz (e:Option (Option Nat×Nat)) (c:Bool) (xs:List PV) (lo hi:V):Option V:=match e,lo,hi with
 | some (none,S),.p (.int _ a),.p (.int _ b)=>if Dt S xs=true/\0<=a/\a<=b/\b<=xs.length then some (.p (.list (c&&decide (b=xs.length)) ((xs.take b.toNat).drop a.toNat))) else none
 | _,_,_=>none
def V.isInt : V->Option Int
 | .p (.int _ n)=>some n
 | _=>none
theorem V.isInt_some {x:V} {n} (h:x.isInt=some n): ∃k,x= .p (.int k n):=by
 unfold V.isInt at h;grind
theorem J7 {d:Int} {x:Operand} :Mr d fr (some x)=(ev fr x).isInt:=rfl
theorem BU {c xs k k' a b} :(Kc P t c xs a b none).map .p=Dz (YR P t) c xs (.p (.int k a)) (.p (.int k' b)):=by
 simp only [Kc,Dz]
 grind
theorem Oa {e c xs lo hi} (h:lo.isInt=none):Dz e c xs lo hi=none:=by
 unfold Dz;grind [V.isInt]
theorem N9 {e c xs lo hi} (h:hi.isInt=none):Dz e c xs lo hi=none:=by
 unfold Dz;grind [V.isInt]
@[go_sem] theorem ZbR {c xs hi} :Vi P H t fr (.p (.list c xs)) none (some hi) none=Dz (YR P t) c xs (.p (.int .i64 0)) (ev fr hi):=by
 simp only [Vi,J7]
 cases h:(ev fr hi).isInt with
 | none=>simp [Mr,N9 h]
 | some n=>obtain ⟨k,e⟩:=V.isInt_some h;rw [e,<- BU];rfl
@[go_sem] theorem ZbS {c xs lo} :Vi P H t fr (.p (.list c xs)) (some lo) none none=Dz (YR P t) c xs (ev fr lo) (.p (.int .i64 (List.length xs))):=by
 simp only [Vi,J7]
 cases h:(ev fr lo).isInt with
 | none=>simp [Oa h]
 | some n=>obtain ⟨k,e⟩:=V.isInt_some h;rw [e,<- BU];rfl
@[go_sem] theorem pI {c xs lo hi} :Vi P H t fr (.p (.list c xs)) (some lo) (some hi) none=Dz (YR P t) c xs (ev fr lo) (ev fr hi):=by
 simp only [Vi,J7]
 cases h:(ev fr lo).isInt with
 | none=>simp [Oa h]
 | some n =>
  cases h2:(ev fr hi).isInt with
  | none=>simp [N9 h2]
  | some m=>grind [V.isInt_some,BU]
@[go_sem] theorem ZeX {α:Type} {f:α->PV} {l:List α} {S c k k' a b} (h0:0<=a) (h1:a<=b) (h2:b<=(l.length:Int)) :
  Dz (some (none,S)) c (l.map f) (.p (.int k a)) (.p (.int k' b))=if Dt S (l.map f)=true then some (.p (.list (c&&decide (b=l.length)) (((l.take b.toNat).drop a.toNat).map f))) else none:=by
 simp_all [Dz]
end
def Il (P:Program) (d:Option TypeDesc) (x i:V):Option V :=
 match d,x,i with
 | some .string,.p (.str s),.p (.int _ n)=>if 0<=n then (s[n.toNat]?).map fun b=> .p (.int .u8 b.toNat) else none
 | some (.array k e),.p (.agg cs),.p (.int _ n)=>if 0<=n/\n<k then (match Yx P e with | some m=>(apart P e cs (n.toNat*m)).map .p | none=>none) else none
 | _,_,_=>none
@[go_sem] theorem Ziu {P:Program} {t:TypeId} {x i:V} :Im P t x i=Il P (P.underlying t) x i:=Zk rfl rfl
@[go_sem] theorem Zby {P:Program} {s:List UInt8} {k n} (h0:0<=n) (h1:n<(s.length:Int)):Il P (some .string) (.p (.str s)) (.p (.int k n))=some (.p (.int .u8 ((nth s n.toNat).toNat:Nat))):=by
 grind [Il,Zh]
def G0 (d:Option TypeDesc) (s:List UInt8) (lo hi:V):Option V:=match d,lo,hi with
 | some .string,.p (.int _ a),.p (.int _ b)=>if 0<=a/\a<=b/\b<=s.length then some (.p (.str ((s.take b.toNat).drop a.toNat))) else none
 | _,_,_=>none
theorem iS {d s lo hi} (h:lo.isInt=none):G0 d s lo hi=none:=by
 unfold G0;grind [V.isInt]
theorem iR {d s lo hi} (h:hi.isInt=none):G0 d s lo hi=none:=by
 unfold G0;grind [V.isInt]
section
variable {P : Program} {H : List Obj} {t : TypeId} {fr : List V}
theorem PA {s:List UInt8} {k k' a b} :(match P.underlying t with | some .string=>(if 0<=a/\a<=b/\b<=(s.length:Int) then some (V.p (.str ((s.take b.toNat).drop a.toNat))) else none) | _=>none)=G0 (P.underlying t) s (.p (.int k a)) (.p (.int k' b)):=by
 simp only [G0]
 grind
@[go_sem] theorem iT {s lo hi} :Vi P H t fr (.p (.str s)) (some lo) (some hi) none=G0 (P.underlying t) s (ev fr lo) (ev fr hi):=by
 simp only [Vi,J7]
 cases h:(ev fr lo).isInt with
 | none=>rw [iS h];simp
 | some n =>
  cases h2:(ev fr hi).isInt with
  | none=>rw [iR h2];simp
  | some m =>
   grind [V.isInt_some,PA]
end
@[go_sem low] theorem Tf {H:List Obj} {S b xs ys o n} :Uu H (some (S,b)) (.elems S xs) o n (some ys)=if xs.length=n/\Bh S ys=true/\(n+ys.length)*b<=140737488355328/\n+ys.length<=140737488355328 then some (.sl o 0 (n+ys.length) (n+ys.length),Ei H o (.elems S (xs++ys))) else none:=by simp [Uu]
@[go_sem] theorem Zkg {H:List Obj} {n f a b f' a' b'} :Fy H n (.fn f a b) (.fn f' a' b')=((f'=f/\a'=a/\b'=b)/\refB n (.fn f a b)=true):=by simp [Fy,kU]
@[go_sem] theorem Zjy {n f a b} :refB n (.fn f a b)=(Xe n a&&Xe n b):=by simp [refB]
@[go_sem] theorem Zlf {n x} :refB n (.p x)=true:=by simp [refB]
@[go_sem] theorem Zg1 {n o off} :refB n (.ptr o off)=decide (o<n):=by simp [refB]
@[go_sem] theorem Zjz {n o off l t} :refB n (.sl o off l t)=decide (o<n):=by simp [refB]
@[go_sem] theorem Zcy {n} :Xe n []=true:=by simp [Xe]
@[go_sem] theorem ZaJ {n x l} :Xe n (x::l)=(refB n x&&Xe n l):=by simp [Xe]
theorem ACalls.useH {P g args H} {v:V} {H2:List Obj} {K:V->List Obj->Prop} (h:ACalls P g args H fun x H'=>x=v/\H'=H2) (k:K v H2):ACalls P g args H K :=
 h.mono (by grind)
theorem Av {α:Type} {f:α->PV} {S:Nat} (h: ∀x,(f x).cells.length=S) (l:List α):Dt S (l.map f)=true:=by
 cases l with
 | nil=>rfl
 | cons x l=>simp [Dt,h]
def UP (F:Option (Nat×Nat×PV)) (H:List Obj) (x y:V):Option (V×List Obj):=match F,x,y with
 | some (S,by',z),.p (.int .i64 n),.p (.int .i64 m)=>if n=m/\0<=n/\(by':Int)*n<=281474976710656/\n<=281474976710656 then some (.sl H.length 0 n.toNat n.toNat,H++ [.elems S (List.replicate n.toNat z)]) else none
 | _,_,_=>none
theorem Dv {P:Program} {t:TypeId} {fr:List V} {H:List Obj} {x y:Operand} {F} (h:OP P t=some F):Wg P (.makeSlice t x y) fr H=UP (some F) H (ev fr x) (ev fr y):=by
 unfold OP at h
 split at h
 ·rename_i e hu
  split at h
  ·rename_i S' z' b h1 h2 h3
   split at h
   ·rename_i hc;simp at h;subst h
    have h3':(P.info? e).map (fun x=>(x.bytes:Int))=some (b:Int):=by
     cases hi:P.info? e with
     | none=>grind
     | some i=>grind
    simp only [Wg,hu,h2,hc.1,if_true,N3,h1,h3'];generalize ev fr x=X;generalize ev fr y=Y
    by_cases hX: ∃n,X= .p (.int .i64 n)
    ·obtain ⟨n,rfl⟩:=hX
     by_cases hY: ∃m,Y= .p (.int .i64 m)
     ·obtain ⟨m,rfl⟩:=hY;simp [UP,hc.2]
     ·have e1:UP (some (S',b,z')) H (.p (.int .i64 n)) Y=none:=by
       unfold UP;grind
      grind
    ·have e1:UP (some (S',b,z')) H X Y=none:=by
      unfold UP;grind
     grind
   ·cases h
  ·cases h
 ·cases h
@[go_sem] theorem ZbH {H:List Obj} {S b:Nat} {z n} (h0:0<=n) (h1:(b:Int)*n<=281474976710656) (h2:n<=281474976710656):UP (some (S,b,z)) H (.p (.int .i64 n)) (.p (.int .i64 n))=some (.sl H.length 0 n.toNat n.toNat,H++ [.elems S (List.replicate n.toNat z)]):=by
 simp_all [UP]
theorem Zaz (x y:Nat) (hx:x<9223372036854775808) (hy:y<9223372036854775808):IntKind.i64.wrap ((BitVec.ofInt 64 (x:Int)|||BitVec.ofInt 64 (y:Int)).toNat:Int)=((x|||y:Nat):Int):=by
 have e:(BitVec.ofInt 64 (x:Int)|||BitVec.ofInt 64 (y:Int)).toNat=x|||y:=by
  grind
 have h:x|||y<2^63:=JD Za Za
 grind [IntWalk.i64_in]
theorem iD (x y:Nat) (hx:x<9223372036854775808) (hy:y<9223372036854775808):IntKind.i64.wrap ((BitVec.ofInt 64 (x:Int)&&&BitVec.ofInt 64 (y:Int)).toNat:Int)=((x&&&y:Nat):Int):=by
 grind [Nat.and_le_left,IntWalk.i64_in]
@[go_sem high] theorem SY {P:Program} {t:TypeId} {x y:Nat} (hx:x<9223372036854775808) (hy:y<9223372036854775808):XW P .or t (.p (.int .i64 (x:Int))) (.p (.int .i64 (y:Int)))=some (.int .i64 ((x|||y:Nat):Int)):=by
 rw [NZ];exact ZV (fun q=>some (PV.int .i64 q)) (Zaz x y hx hy)
@[go_sem high] theorem FB {P:Program} {t:TypeId} {x y:Nat} (hx:x<9223372036854775808) (hy:y<9223372036854775808):XW P .and t (.p (.int .i64 (x:Int))) (.p (.int .i64 (y:Int)))=some (.int .i64 ((x&&&y:Nat):Int)):=by
 rw [Ie];exact ZV (fun q=>some (PV.int .i64 q)) (iD x y hx hy)
def pw (k:Nat):Nat:=2^k
theorem mO (k:Nat):pw (k+1)=2*pw k:=by grind [pw]
theorem CF {k m:Nat} (h:k<=m):pw k<=pw m:=Wk Za h
theorem eX (k:Nat):0<pw k:=Nat.pow_pos Za
theorem LG : pw 62=4611686018427387904:=by decide
@[go_sem high] theorem Zbj {P:Program} {t:TypeId} {k'} {a:Int} (h0:0<=a) (h1:a<=62):XW P .shl t (.p (.int .i64 1)) (.p (.int k' a))=some (.int .i64 ((pw a.toNat:Nat):Int)):=by
 rw [S0 h0]
 have h2:min a.toNat IntKind.i64.bits=a.toNat:=by show min a.toNat 64=a.toNat;omega
 rw [h2,Int.one_mul]
 have h3:((2:Int)^a.toNat)=((pw a.toNat:Nat):Int):=by simp [pw]
 rw [h3];have:=CF (show a.toNat<=62 by omega)
 grind [LG,IntWalk.i64_in]
attribute [go_sem] List.length_append List.map_append not_false_eq_true not_true_eq_false false_and and_false true_or or_true false_or or_false Classical.not_not Bool.false_eq_true Bool.and_false Bool.false_and
end Go.AM
namespace Go.AM
open Go.RowKit
theorem OA {P ds frJ H} {K K':List V->Prop} : ∀(l:List Oper) (i:Nat) (vals:List V),(∀ys,ys.length=vals.length+l.length->K ys->K' ys)->hd P ds frJ H K i l vals->hd P ds frJ H K' i l vals
 | [],i,vals,hk,h=>hk vals rfl h
 | o::l,i,vals,hk,h=>by
  have ih: ∀y,hd P ds frJ H K (i+1) l (vals++ [y])->hd P ds frJ H K' (i+1) l (vals++ [y]):=fun y=>OA l (i+1) (vals++ [y]) fun ys hy=>hk ys (by simp at hy ⊢;omega);simp only [hd] at h ⊢
  split at h
  ·obtain ⟨y,h1,h2⟩:=h;exact ⟨y,h1,ih y h2⟩
  ·unfold Xv at h ⊢
   split at h
   ·exact ⟨fun e=>by obtain ⟨y,h1,h2⟩:=h.1 e;exact ⟨y,h1,ih y h2⟩,fun e=>ih _ (h.2 e)⟩
   ·exact ih _ h
   ·exact h.elim
def X9 : List (Option Nat)->List V->List V->List V
 | some d::ds,v::vals,fr=>X9 ds vals (pt fr d v)
 | none::ds,_::vals,fr=>X9 ds vals fr
 | _,_,fr=>fr
def SL (A:V->Prop) (B:V->Prop):Prop:= ∃y,A y/\B y
section
variable {P : Program} {ds : List (Option Nat)} {frJ : List V} {H : List Obj} {K : List V -> Prop} {i : Nat} {r : List Oper} {vals : List V} {d : Option Nat} {op : Op} {t : TypeId} {ps : String} {af : Array Edge}
@[go_sem ↓, go_sem] theorem ZkL {v:V} {B:V->Prop} {t} :SL (fun y=>v=y) (Zv B t)=B v:=by simp [SL,Zv]
def qF (ds:List (Option Nat)) (vals:List V) (l:List Nat) (fr:List V) (a:Option (Option Nat)) (v:Option V):List V:=match a,v with
 | some (some d),some v=>hset ds vals l (pt fr d v)
 | _,_=>hset ds vals l fr
theorem Zq {f azs} {z:PV} {B:V->Prop} {t} (h:ACalls P f azs [] fun x H'=>x= .p z/\H'= []) (k:B (.p z)) (ha:Xe 0 azs=true:=by rfl) :
  SL (fun y=>ACalls P f azs H (Zv (Zv (fun x H'=>x=y/\H'=H) ⟨⟩) ⟨⟩)) (Zv B t) :=
 ⟨.p z,h.use ⟨rfl,rfl⟩ ha,k⟩
end
section
variable {P : Program} {fr : List V} {H : List Obj} {k : V -> List Obj -> Prop} {d : Option Nat} {t : TypeId} {ps : String} {af : Array Edge} {g : Option (Nat × Bool)}
@[go_sem ↓] theorem sH {u n l} :ZB P ⟨d,.buildSlice u n (List.toArray l),t,ps,af,g⟩ fr H k=CO ((Ip (U3 P u) H n (l.map fun x=>(x.1,ev fr x.2))).map .p) (Zv (fun v=>k v H) ⟨⟩):=by
 grind [ZB,CO,Zv]
@[go_sem] theorem rR {S n l} :Ip (some S) H n l=if n=l.length/\n*S<=16777216/\0<S then (Ql H S 0 l).map (.list false) else none:=Zk rfl rfl
@[go_sem ↓] theorem pL {x} :ZB P ⟨d,.move x,t,ps,af,g⟩ fr H k=Zs P ⟨d,.move x,t,ps,af,g⟩ fr H k:=rfl
@[go_sem ↓] theorem gP {x} :ZB P ⟨d,.assign x,t,ps,af,g⟩ fr H k=Zs P ⟨d,.assign x,t,ps,af,g⟩ fr H k:=rfl
@[go_sem ↓] theorem pM {x y z} :ZB P ⟨d,.pick x y z,t,ps,af,g⟩ fr H k=Zs P ⟨d,.pick x y z,t,ps,af,g⟩ fr H k:=rfl
@[go_sem ↓] theorem iU {x} :ZB P ⟨d,.alloc x,t,ps,af,g⟩ fr H k=Zs P ⟨d,.alloc x,t,ps,af,g⟩ fr H k:=rfl
@[go_sem ↓] theorem sF {x y} :ZB P ⟨d,.box x y,t,ps,af,g⟩ fr H k=Zs P ⟨d,.box x y,t,ps,af,g⟩ fr H k:=rfl
@[go_sem ↓] theorem iW {x y} :ZB P ⟨d,.build x y,t,ps,af,g⟩ fr H k=Zs P ⟨d,.build x y,t,ps,af,g⟩ fr H k:=rfl
@[go_sem ↓] theorem pK {x y} :ZB P ⟨d,.load x y,t,ps,af,g⟩ fr H k=Zs P ⟨d,.load x y,t,ps,af,g⟩ fr H k:=rfl
@[go_sem ↓] theorem jA {x y z} :ZB P ⟨d,.store x y z,t,ps,af,g⟩ fr H k=Zs P ⟨d,.store x y z,t,ps,af,g⟩ fr H k:=rfl
@[go_sem ↓] theorem SG {x} :ZB P ⟨d,.nilCheck x,t,ps,af,g⟩ fr H k=Zs P ⟨d,.nilCheck x,t,ps,af,g⟩ fr H k:=rfl
@[go_sem ↓] theorem iV {x y z u v} :ZB P ⟨d,.binOp x y z u v,t,ps,af,g⟩ fr H k=Zs P ⟨d,.binOp x y z u v,t,ps,af,g⟩ fr H k:=rfl
@[go_sem ↓] theorem pN {x y z} :ZB P ⟨d,.unOp x y z,t,ps,af,g⟩ fr H k=Zs P ⟨d,.unOp x y z,t,ps,af,g⟩ fr H k:=rfl
@[go_sem ↓] theorem Tl {x y z} :ZB P ⟨d,.convert x y z,t,ps,af,g⟩ fr H k=Zs P ⟨d,.convert x y z,t,ps,af,g⟩ fr H k:=rfl
@[go_sem ↓] theorem SF {x y z} :ZB P ⟨d,.makeFunc x y z,t,ps,af,g⟩ fr H k=Zs P ⟨d,.makeFunc x y z,t,ps,af,g⟩ fr H k:=rfl
@[go_sem ↓] theorem PE {x y z} :ZB P ⟨d,.makeSlice x y z,t,ps,af,g⟩ fr H k=Zs P ⟨d,.makeSlice x y z,t,ps,af,g⟩ fr H k:=rfl
@[go_sem ↓] theorem iZ {x y z u v} :ZB P ⟨d,.slice x y z u v,t,ps,af,g⟩ fr H k=Zs P ⟨d,.slice x y z u v,t,ps,af,g⟩ fr H k:=rfl
@[go_sem ↓] theorem PB {x y z} :ZB P ⟨d,.fieldAddr x y z,t,ps,af,g⟩ fr H k=Zs P ⟨d,.fieldAddr x y z,t,ps,af,g⟩ fr H k:=rfl
@[go_sem ↓] theorem iX {x y z} :ZB P ⟨d,.field x y z,t,ps,af,g⟩ fr H k=Zs P ⟨d,.field x y z,t,ps,af,g⟩ fr H k:=rfl
@[go_sem ↓] theorem PD {x y z} :ZB P ⟨d,.indexAddr x y z,t,ps,af,g⟩ fr H k=Zs P ⟨d,.indexAddr x y z,t,ps,af,g⟩ fr H k:=rfl
@[go_sem ↓] theorem iY {x y z} :ZB P ⟨d,.index x y z,t,ps,af,g⟩ fr H k=Zs P ⟨d,.index x y z,t,ps,af,g⟩ fr H k:=rfl
@[go_sem ↓] theorem Tm {x y} :ZB P ⟨d,.extract x y,t,ps,af,g⟩ fr H k=Zs P ⟨d,.extract x y,t,ps,af,g⟩ fr H k:=rfl
@[go_sem ↓] theorem pJ {x y z} :ZB P ⟨d,.call ⟨.value x,y,z⟩,t,ps,af,g⟩ fr H k=Zs P ⟨d,.call ⟨.value x,y,z⟩,t,ps,af,g⟩ fr H k:=rfl
@[go_sem ↓] theorem sG {y z} :ZB P ⟨d,.call ⟨.builtin .len,y,z⟩,t,ps,af,g⟩ fr H k=Zs P ⟨d,.call ⟨.builtin .len,y,z⟩,t,ps,af,g⟩ fr H k:=rfl
@[go_sem ↓] theorem sI {y z} :ZB P ⟨d,.call ⟨.builtin .max,y,z⟩,t,ps,af,g⟩ fr H k=Zs P ⟨d,.call ⟨.builtin .max,y,z⟩,t,ps,af,g⟩ fr H k:=rfl
@[go_sem ↓] theorem sJ {y z} :ZB P ⟨d,.call ⟨.builtin .min,y,z⟩,t,ps,af,g⟩ fr H k=Zs P ⟨d,.call ⟨.builtin .min,y,z⟩,t,ps,af,g⟩ fr H k:=rfl
theorem G2 {o fr' H'} (h:fr=fr') (h2:H=H'):ZB P o fr H k=ZB P o fr' H' k:=by rw [h,h2]
end
attribute [congr] G2
attribute [go_sem] List.filter_cons List.filter_nil
end Go.AM
namespace Go.AM
open Go.RowKit
mutual
/-- no memory in it -/
def M1 : PV->Bool
 | .list _ xs=>xs.isEmpty
 | .agg cs=>Cx cs
 | _=>true
def Cx : List PV->Bool
 | []=>true
 | x::l=>M1 x&&Cx l
end
theorem Kh : ∀ {l:List PV},Cx l=true-> ∀(j:Nat) (x:PV),l[j]? =some x->M1 x=true
 | [],_,j,x,h=>by simp at h
 | y::l,hh,j,x,h=>by
  simp [Cx] at hh
  cases j with
  | zero=>simp at h;subst h;exact hh.1
  | succ j=>exact Kh hh.2 j x (by simpa using h)
theorem RP.anywhere {X X':Nat->Prop} {w w' x v} (h:RP X w x v) (hf:M1 x=true):RP X' w' x v:=by
 induction h with
 | int k n=>exact .int k n
 | bool b=>exact .bool b
 | str s=>exact .str s
 | nilp=>exact .nilp
 | nili=>exact .nili
 | nilf=>exact .nilf
 | nilm=>exact .nilm
 | fn f=>exact .fn f
 | nils cl=>exact .nils cl
 | emp cl a cap hc hm ha=>exact .emp cl a cap hc hm ha
 | list cl xs b off cap S u hX hb hc hm hcl hS hu hr ih =>
  have:xs= []:=by grind [M1]
  subst this;exact .emp cl _ cap (fun h=>by grind) hm (fun _ x hx=>by grind)
 | agg cs a hs _ ih=>exact .agg cs a hs fun j c hj=>ih j c hj (Kh (by grind [M1]) j c hj)
def vw (H:List Obj):V->Option V
 | .p x=>some (.p x)
 | .fn f [] []=>some (.fn f [] [])
 | .sl o off len tot=>match oat H o with
  | .elems _ xs=>if xs.length=tot/\off+len<=tot then some (.p (.list false ((xs.take (off+len)).drop off))) else none
  | _=>none
 | _=>none
def vws (H:List Obj):List V->Option (List V)
 | []=>some []
 | x::l=>match vw H x,vws H l with | some y,some ys=>some (y::ys) | _,_=>none
abbrev KJ : Nat->Prop:=fun _=>False
theorem Bm {b:Nat} : ¬Own KJ [] b:=by simp [Own]
theorem Zg4 {F H ι w x v y} (hr:Rel F H ι w) (h:RV F H ι w x v) (hy:vw H x=some y):RV KJ [] [] w y v:=by
 unfold vw at hy
 split at hy
 ·simp at hy;subst hy
  cases h with | p _ _ h=>exact .p _ _ (h.weaker fun b hb=>absurd hb Bm)
 ·simp at hy;subst hy;generalize v=u at h
  cases h with
  | fn _ _ _ a e hs ht _ _=>exact .fn _ [] [] a e hs ht (fun j c hj=>by simp at hj) (fun j c hj=>by simp at hj)
 ·rename_i o off len tot
  split at hy
  ·rename_i S xs ho
   split at hy
   ·rename_i hc;simp at hy;subst hy;exact .p _ _ (Ah _ (fun b _ hb=>Bm hb) (fun b _ hs=>⟨Bm,hs,rfl⟩) hr (Z2 ho Zb) hc.1 hc.2 h)
   ·cases hy
  ·cases hy
 ·cases hy
theorem Ph {H} : ∀ {l l':List V},vws H l=some l'->l'.length=l.length/\ ∀(j:Nat) (y:V),l'[j]? =some y-> ∃x,l[j]? =some x/\vw H x=some y
 | [],l',h=>by simp [vws] at h;grind
 | x::l,l',h=>by
  simp only [vws] at h
  split at h
  ·rename_i y ys h1 h2;simp at h;subst h;obtain ⟨e,hg⟩:=Ph h2;refine ⟨by simp [e],fun j z hj=> ?_⟩
   cases j with
   | zero=>simp at hj;subst hj;exact ⟨x,Zb,h1⟩
   | succ j=>obtain ⟨q,q1,q2⟩:=hg j z (by simpa using hj);exact ⟨q,by simpa using q1,q2⟩
  ·cases h
theorem Good.lift {F H ι w H1 ι1 w'} (hr:Rel F H ι w) (g:Good KJ [] [] w H1 ι1 w') (h1: ∀(o:Nat) (ob:Obj),H1[o]? =some ob-> ∃S xs,ob= .elems S xs/\Cx xs=true):Good (Own F ι) [] [] w H1 ι1 w':=by
 have hnew: ∀b,some b∈ι1-> ¬b<w.heap.size:=fun b hb hlt=>g.own b hlt Zb hb
 have hold: ∀b,Own F ι b->b<w.heap.size:=fun b hb=>by
  rcases hb with hb | hb
  ·exact hr.fin b hb
  ·obtain ⟨i,hi⟩:=Z6.1 hb;exact (hr.avo i b hi).2
 refine Good.up hr.env.fresh ⟨⟨g.rel.len,fun b hb=>by have:=hold b hb;have:=g.size;omega,g.rel.inj,fun i b hi=> ?_,fun o cs ho=> ?_,fun o S xs ho=> ?_,fun o es ho=>(by grind),fun o T E r bs ho=>(by grind)⟩,g.os,g.tape,g.output,g.shape,g.size,g.keep,g.own,g.hx⟩
 ·refine ⟨fun hb=>hnew b (Xj hi) (hold b hb),(g.rel.avo i b hi).2⟩
 ·grind
 ·rcases g.rel.elm o S xs ho with e | ⟨b,c,t,cap,e1,e2,e3,e4,e5,e6,e7⟩
  ·exact .inl e
  ·refine .inr ⟨b,c,t,cap,e1,e2,e3,e4,e5,e6,fun i x j y hi hj=> ?_⟩;obtain ⟨S',xs',e,hf⟩:=h1 o _ ho;simp at e;obtain ⟨rfl,rfl⟩:=e;have hx:=Kh hf i x hi;refine (e7 i x j y hi hj).anywhere ?_
   cases x<;>simp only [PV.cells] at hj
   case agg cs=>grind [Kh,M1]
   all_goals (cases j with
    | zero=>simp at hj;subst hj;exact hx
    | succ j=>simp at hj)
theorem Es {w:World} (he:Env KJ [] w):Rel KJ [] [] w:=⟨⟨rfl,fun b hb=>hb.elim,fun i j b hi=>by simp at hi,fun i b hi=>by simp at hi,fun o cs ho=>by simp at ho,fun o S xs ho=>by simp at ho,fun o es ho=>by simp at ho,fun o T E r bs ho=>by simp at ho⟩,he⟩
theorem ACalls.viewF {P g args args'} {S n:Nat} {xs:List PV} {H:List Obj} {K:V->List Obj->Prop} (h:ACalls P g args' [] fun x H'=>x= .sl 0 0 n n/\H'= [.elems S xs]) (hv:vws H args=some args') (hy:Cx xs=true) (k:K (.sl H.length 0 n n) (H++ [.elems S xs])):ACalls P g args H K:=by
 refine ⟨h.1,fun F ι w vs hr hvs=> ?_⟩;obtain ⟨e,hg⟩:=Ph hv;refine (h.2 KJ [] w vs (Es hr.env.noth) ⟨by rw [hvs.1,e],fun j c hj=> ?_⟩).mono ?_
 ·obtain ⟨x,h1,h2⟩:=hg j c hj;exact Zg4 hr (hvs.2 j x h1) h2
 ·rintro e w' ⟨x,H',ι',v,rfl,⟨rfl,rfl⟩,gd,rv⟩
  have gl:=gd.lift hr (fun o ob ho=>by
   grind)
  have g2:=gl.behind hr
  have rv2:RV (Own F ι) [.elems S xs] ι' w' (.sl 0 0 n n) v:=by
   cases rv with
   | slNil _ S a h3 h2=>exact .slNil _ S a h3 h2
   | sl _ _ _ _ b S cap t xs c h1 h2 ht hw hcap hl hlen hm=>exact .sl _ _ _ _ b S cap t xs c h1 h2 ht hw hcap hl hlen hm
   | slD _ _ _ _ _ h1=>simp at h1
   | slS _ _ _ _ _ S xs h1 hne=>exact .slS _ _ _ _ _ S xs h1 hne
   | slC _ _ _ _ _ _ h1=>simp at h1
  exact ⟨_,_,_,v,rfl,by simpa [shV,shO] using k,g2,by simpa [shV] using rv2.sh hr.len⟩
def rd1 (H:List Obj):V->Option PV
 | .p x=>some x
 | .sl o off len tot=>match oat H o with
  | .elems _ xs=>if xs.length=tot/\off+len<=tot then some (.list false ((xs.take (off+len)).drop off)) else none
  | _=>none
 | _=>none
def rds (H:List Obj):List V->Option (List PV)
 | []=>some []
 | x::l=>match rd1 H x,rds H l with | some y,some ys=>some (y::ys) | _,_=>none
def rd (H:List Obj):V->Option PV
 | .agg cs=>(rds H cs).map .agg
 | x=>rd1 H x
@[go_sem] theorem Ziw {o off len tot r} :UO (.sl o off len tot::r)=none:=Zk rfl rfl
attribute [go_sem] Option.map_none
end Go.AM
namespace Go.Proofs.YtiigdaohjanidaaGreatDoor.K
open Go Go.AM
def Val (n:Nat) (be:List (Int×Int)):Prop:= ∀p∈be,0<=p.1/\p.1<n/\0<=p.2/\p.2<n
theorem EP (a b:Nat):(pw a).testBit b=decide (a=b):=by grind [pw]
def tot (l:List Nat):Nat:=l.foldr (· + ·) 0
theorem rM {s b:Nat} (h:s.testBit b=false) (j:Nat):(s+pw b).testBit j=(s.testBit j||decide (b=j)):=by
 have e1:s=2^(b+1)*(s / 2^(b+1))+s%2^(b+1):=(Nat.div_add_mod _ _).symm;have e2:s%2^(b+1)<2^(b+1):=UD _ (Nat.two_pow_pos _)
 have e3:s%2^(b+1)<2^b:=by
  rw [D0] at h;simp at h
  have h1:s%2^(b+1)=s%2^b+2^b*(s / 2^b%2):=by rw [Nat.pow_succ,Nat.mod_mul]
  rw [h1,h,Nat.mul_zero,W3];omega
 generalize s / 2^(b+1)=q at e1;generalize s%2^(b+1)=r at e1 e2 e3
 have hp:2^(b+1)=2^b+2^b:=Za
 have e4:s+pw b=2^(b+1)*q+(2^b*1+r):=by grind [pw]
 rw [e4,Nat.testBit_two_pow_mul_add _ Za,e1,Nat.testBit_two_pow_mul_add _ e2]
 by_cases hj:j<b+1
 ·simp only [hj,if_true];rw [Nat.testBit_two_pow_mul_add _ e3]
  grind
 grind
def Vd (p:Nat->Bool):Nat->Nat
 | 0=>0
 | k+1=>if p k then Vd p k+pw k else Vd p k
theorem BF (p:Nat->Bool): ∀k,Vd p k<pw k
 | 0=>by simp [Vd,pw]
 | k+1=>by
  have:=BF p k
  grind [mO,Vd]
theorem Cn (p:Nat->Bool): ∀k j,(Vd p k).testBit j=(decide (j<k)&&p j)
 | 0,j=>by simp [Vd]
 | k+1,j=>by
  have hb:(Vd p k).testBit k=false:=C2 (BF p k);simp only [Vd]
  split
  ·rename_i hp;rw [rM hb,Cn p k j]
   grind
  ·rename_i hp;rw [Cn p k j]
   grind
def cls (fr s:Nat) (p:Int×Int):Prop:=(p.1.toNat=fr\/s.testBit p.1.toNat=true)->s.testBit p.2.toNat=true
end Go.Proofs.YtiigdaohjanidaaGreatDoor.K
