/- Declarations that the closing texts need, part 4: joined by tools/slim.py. -/
import Derived.Test.YtjkkdmeebhjaiaaGreatDoorY3
set_option linter.unusedVariables false
set_option linter.unusedSimpArgs false
universe u
namespace Go.AM
open Go.RowKit
structure Tk {α:Sort u} (a:α):Type where
def Zt {α:Sort u} (a:α) (_:Tk a):α:=a
@[go_sem] theorem ZdL {α β:Type} {f:α->β} {t x} :Zt f t x=f x:=Zm rfl rfl
@[go_sem ↓] theorem ZdM {α β:Type} {f:α->β->Prop} {t x y} :Zt f t x y=f x y:=Zm rfl rfl
@[go_sem ↓] theorem ZdN {α β γ:Type} {f:α->β->γ->Prop} {t x y z} :Zt f t x y z=f x y z:=Zm rfl rfl
def A9 (x:Option V) (K:V->Prop):Prop:=match x with | some v=>K v | none=>False
def AR (x:Option (V×List Obj)) (K:V->List Obj->Prop):Prop:=match x with | some (v,H)=>K v H | none=>False
def bst (x:V) (K:Bool->Prop):Prop:=match x with | .p (.bool b)=>K b | _=>False
def hst (x:Option (List Obj)) (K:List Obj->Prop):Prop:=match x with | some H=>K H | none=>False
@[go_sem ↓, go_sem] theorem ZiQ {v K} :A9 (some v) K=K v:=Zm rfl rfl
@[go_sem ↓, go_sem] theorem Ziv {v H K} :AR (some (v,H)) K=K v H:=Zm rfl rfl
@[go_sem ↓, go_sem] theorem Zg6 {H K} :hst (some H) K=K H:=Zm rfl rfl
@[congr] theorem Zd4 {x x' K} (h:x=x'):A9 x K=A9 x' K:=by rw [h]
@[congr] theorem ZdX {x x' K} (h:x=x'):AR x K=AR x' K:=by rw [h]
@[congr] theorem ZdQ {x x' K} (h:x=x'):hst x K=hst x' K:=by rw [h]
def IJ (fr:List V):List V:=fr
@[go_sem] theorem Zmz {fr} :IJ fr=fr:=Zm rfl rfl
section code
variable {cuts : List Nat} {P : Program} {fr : List V} {H : List Obj} {Q : Exit -> List V -> List Obj -> Prop}
@[go_sem ↓] theorem Zdz : Jv cuts P .skip fr H Q=Q .normal fr H:=Zm rfl rfl
@[go_sem ↓] theorem tD {id} {l:List Oper} :Jv cuts P (.region id l.toArray false) fr H Q=Yx P (l.map (·.dst)) l (IJ fr) H (Zt (Q .normal) ⟨⟩):=by rfl
@[go_sem ↓] theorem wC {id ops} :Jv cuts P (.region id ops true) fr H Q=AWP P (.region id (Zt ops ⟨⟩) true) fr H (Zt Q ⟨⟩):=by rfl
@[go_sem ↓] theorem Zgw {x y} :Jv [] P (.seq x y) fr H Q=Jv [] P x fr H (Qy (fun fr H=>Jv [] P y fr H Q) Q):=by
 grind [Jv]
def kT (b:Bool) (A B:Prop):Prop:=if b then A else B
def Mh (cuts:List Nat):Option Nat->Bool
 | some i=>cuts.contains i
 | none=>false
@[go_sem ↓] theorem Zdy {k x y} :Jv (k::cuts) P (.seq x y) fr H Q=kT (Mh (k::cuts) (MH x)) (Zt (AWP P (.seq (Zt x ⟨⟩) (Zt y ⟨⟩)) fr H (Zt Q ⟨⟩)) ⟨⟩) (Zt (Jv (k::cuts) P x fr H (Qy (fun fr H=>Jv (k::cuts) P y fr H Q) Q)) ⟨⟩):=by
 rfl
@[go_sem ↓, go_sem] theorem Zd6 {A B:Prop} {t} :kT true (Zt A t) B=A:=by rfl
@[go_sem ↓, go_sem] theorem Zcf {A B:Prop} {t} :kT false A (Zt B t)=B:=by rfl
theorem Py {b b' A B} (h:b=b'):kT b A B=kT b' A B:=by rw [h]
@[go_sem ↓] theorem xH {id ops d} :MH (.region id ops d)=some id:=Zm rfl rfl
@[go_sem ↓] theorem ZkS {x y} :MH (.seq x y)=MH x:=Zm rfl rfl
@[go_sem ↓] theorem ZdK {id c} :MH (.block id c)=MH c:=Zm rfl rfl
@[go_sem ↓] theorem Zg1 {c x y} :MH (.cond c x y)=none:=Zm rfl rfl
@[go_sem ↓] theorem Zg3 {c} :MH (.loop c)=none:=Zm rfl rfl
@[go_sem] theorem wT : Mh cuts none=false:=Zm rfl rfl
@[go_sem] theorem ZdE {i} :Mh [] (some i)=false:=Zm rfl rfl
@[go_sem] theorem wS {k i} :Mh (k::cuts) (some i)=(decide (i=k)||Mh cuts (some i)):=by rfl
@[go_sem ↓] theorem Zdu {c x y} :Jv cuts P (.cond c x y) fr H Q=Ur (ev fr c) (Zt (Jv cuts P x fr H Q) ⟨⟩) (Zt (Jv cuts P y fr H Q) ⟨⟩):=Zm rfl rfl
@[go_sem ↓] theorem wB {id c} :Jv cuts P (.block id c) fr H Q=Jv cuts P c fr H (QH id Q):=Zm rfl rfl
@[go_sem ↓] theorem Zdv {id} :Jv cuts P (.exit id) fr H Q=Q (.exit id) fr H:=Zm rfl rfl
@[go_sem ↓] theorem Zgv : Jv cuts P .ret fr H Q=Q .ret fr H:=Zm rfl rfl
@[go_sem ↓] theorem Zdx {c} :Jv cuts P (.loop c) fr H Q=AWP P (.loop (Zt c ⟨⟩)) fr H (Zt Q ⟨⟩):=Zm rfl rfl
@[go_sem ↓] theorem Zdw {c t} :Jv cuts P (Zt c t) fr H Q=Jv cuts P c fr H Q:=Zm rfl rfl
theorem SP {c fr' H'} (h:fr=fr') (h2:H=H'):Jv cuts P c fr H Q=Jv cuts P c fr' H' Q:=by rw [h,h2]
theorem Sv {c fr' H'} (h:fr=fr') (h2:H=H'):AWP P c fr H Q=AWP P c fr' H' Q:=by rw [h,h2]
@[go_sem ↓] theorem rU {A:List V->List Obj->Prop} :Qy A Q .normal fr H=A fr H:=Zm rfl rfl
@[go_sem ↓] theorem Zco {A:List V->List Obj->Prop} {id} :Qy A Q (.exit id) fr H=Q (.exit id) fr H:=Zm rfl rfl
@[go_sem ↓] theorem Zfh {A:List V->List Obj->Prop} :Qy A Q .ret fr H=Q .ret fr H:=Zm rfl rfl
@[go_sem ↓] theorem mD {id} :QH id Q .normal fr H=Q .normal fr H:=Zm rfl rfl
@[go_sem ↓] theorem wF {id} :QH id Q .ret fr H=Q .ret fr H:=Zm rfl rfl
@[go_sem ↓] theorem tG {id id'} :QH id Q (.exit id') fr H=if id'=id then Q .normal fr H else Q (.exit id') fr H:=Zm rfl rfl
theorem NP {A:List V->List Obj->Prop} {e fr' H'} (h:fr=fr') (h2:H=H'):Qy A Q e fr H=Qy A Q e fr' H':=by rw [h,h2]
theorem Io {id e fr' H'} (h:fr=fr') (h2:H=H'):QH id Q e fr H=QH id Q e fr' H':=by rw [h,h2]
@[go_sem ↓] theorem uF {rs} {Q:V->List Obj->Prop} :Bb P rs Q .normal fr H=AR ((Y3 P fr H rs).map fun xs=>(QW xs,H)) (Zt Q ⟨⟩):=by
 simp only [Bb,Zt];grind [AR]
@[go_sem ↓] theorem ZiV {rs} {Q:V->List Obj->Prop} :Bb P rs Q .ret fr H=AR ((Y3 P fr H rs).map fun xs=>(QW xs,H)) (Zt Q ⟨⟩):=by
 simp only [Bb,Zt];grind [AR]
theorem Ps {rs e fr' H'} {Q:V->List Obj->Prop} (h:fr=fr') (h2:H=H'):Bb P rs Q e fr H=Bb P rs Q e fr' H':=by rw [h,h2]
@[go_sem] theorem Zb8 : Y3 P fr H []=some []:=Zm rfl rfl
@[go_sem] theorem Zb9 {t l} :Y3 P fr H (.tmp t::l)=(Y3 P fr H l).map (gt fr t:: ·):=by
 simp only [Y3,aB];cases Y3 P fr H l<;>rfl
@[go_sem] theorem uD {a t l} :Y3 P fr H (.cell a t::l)=(Q0 P H t (gt fr a)).bind fun x=>(Y3 P fr H l).map (x:: ·):=by
 simp only [Y3,aB];cases Q0 P H t (gt fr a)<;>cases Y3 P fr H l<;>rfl
@[go_sem] theorem Zca {x} :QW [x]=x:=Zm rfl rfl
@[go_sem] theorem uE : QW []= .tup []:=Zm rfl rfl
@[go_sem] theorem Pr {x y l} :QW (x::y::l)= .tup (x::y::l):=Zm rfl rfl
end code
attribute [congr] Py SP Sv NP Io Ps
@[go_sem] theorem ZkQ {x:V} {l} :gt (x::l) 0=x:=Zm rfl rfl
@[go_sem] theorem ZkP {x:V} {l n} :gt (x::l) (n+1)=gt l n:=Zm rfl rfl
@[go_sem] theorem Zmw {n} :gt [] n= .junk:=Zm rfl rfl
@[go_sem] theorem Zlc {x v:V} {l} :pt (x::l) 0 v=v::l:=Zm rfl rfl
@[go_sem] theorem Zlb {x v:V} {l n} :pt (x::l) (n+1) v=x::pt l n v:=Zm rfl rfl
@[go_sem] theorem ZiS {fr d v} :Ua fr (some d) v=pt fr d v:=Zm rfl rfl
@[go_sem] theorem ZiR {fr v} :Ua fr none v=fr:=Zm rfl rfl
@[go_sem] theorem ZiA {x:Obj} {l} :oat (x::l) 0=x:=Zm rfl rfl
@[go_sem] theorem Ziz {x:Obj} {l n} :oat (x::l) (n+1)=oat l n:=Zm rfl rfl
@[go_sem] theorem ZiK {x v:Obj} {l} :FC (x::l) 0 v=v::l:=Zm rfl rfl
@[go_sem] theorem ZiJ {x v:Obj} {l n} :FC (x::l) (n+1) v=x::FC l n v:=Zm rfl rfl
@[go_sem] theorem ZkF {fr t} :evx fr (.tmp t)=gt fr t:=Zm rfl rfl
@[go_sem] theorem wZ {fr g} :evx fr (.global g)=gB g:=Zm rfl rfl
@[go_sem] theorem Zml {fr t} :ev fr (.tmp t)=gt fr t:=Zm rfl rfl
@[go_sem] theorem ZkC {fr f} :ev fr (.func f)= .fn (.func f) [] []:=Zm rfl rfl
@[go_sem] theorem Zmj {fr k n} :ev fr (.const (.int k n))= .p (.int k n):=Zm rfl rfl
@[go_sem] theorem ZkB {fr b} :ev fr (.const (.bool b))= .p (.bool b):=Zm rfl rfl
@[go_sem] theorem Zmk {fr s} :ev fr (.const (.string s))= .p (.str s.data.toList):=Zm rfl rfl
@[go_sem] theorem ZkE {fr} :ev fr (.const (.slice none 0 0))= .p (.list true []):=Zm rfl rfl
@[go_sem] theorem ZkD {fr} :ev fr (.const (.pointer none))= .p .nilp:=Zm rfl rfl
@[go_sem] theorem Zmi {fr l} :ev fr (.const (.agg (List.toArray l)))=match wU l with | some xs=> .p (.agg xs) | none=> .junk:=Zm rfl rfl
@[go_sem] theorem ZgV {fr d} {l:List (Option Nat)} :Fe fr (some d::l) 0=gt fr d:=by simp [Fe]
@[go_sem] theorem ZgU {fr o n} {l:List (Option Nat)} :Fe fr (o::l) (n+1)=Fe fr l n:=by simp [Fe]
section ops
variable {P : Program} {fr : List V} {H : List Obj} {ds : List (Option Nat)} {K : List V -> List Obj -> Prop} {r : List Oper} {d : Option Nat} {t : TypeId} {ps : String} {af : Array Edge} {g : Option (Nat × Bool)} {k : V -> List Obj -> Prop}
theorem Oi {l fr' H'} (h:fr=fr') (h2:H=H'):Yx P ds l fr H K=Yx P ds l fr' H' K:=by rw [h,h2]
theorem LZ {o fr' H'} (h:fr=fr') (h2:H=H'):Zv P o fr H k=Zv P o fr' H' k:=by rw [h,h2]
@[go_sem ↓] theorem Zgk : Yx P ds [] fr H K=K fr H:=Zm rfl rfl
@[go_sem] theorem Zde {op} :Yx P ds (⟨d,op,t,ps,af,none⟩::r) fr H K=Zv P ⟨d,op,t,ps,af,none⟩ fr H (Zt (fun x H'=>Yx P ds r (Ua fr d x) H' K) ⟨⟩):=Zm rfl rfl
@[go_sem] theorem vC {op j b} :Yx P ds (⟨d,op,t,ps,af,some (j,b)⟩::r) fr H K=XE (Fe fr ds j) b (Zt (Zv P ⟨d,op,t,ps,af,none⟩ fr H (Zt (fun x H'=>Yx P ds r (Ua fr d x) H' K) ⟨⟩)) ⟨⟩) (Zt (Yx P ds r (Ua fr d (.tup [])) H K) ⟨⟩):=by
 rfl
theorem XF {op:Op} (h:YR op=none) (h2:WJ P op fr H=none):Zv P ⟨d,op,t,ps,af,g⟩ fr H k=A9 (Z8 P op fr H) fun x=>k x H:=by
 simp only [Zv,h,LG,h2]
 all_goals (cases Z8 P op fr H<;>rfl)
theorem SN {op:Op} (h:YR op=none) (h2:Z8 P op fr H=none):Zv P ⟨d,op,t,ps,af,g⟩ fr H k=AR (WJ P op fr H) k:=by
 grind [Zv,LG,AR]
@[go_sem ↓] theorem vW {x} :Zv P ⟨d,.move x,t,ps,af,g⟩ fr H k=k (ev fr x) H:=by rfl
@[go_sem ↓] theorem nQ {x} :Zv P ⟨d,.assign x,t,ps,af,g⟩ fr H k=k (ev fr x) H:=by rfl
def vif (b:Bool) (x y:V):V:=if b then x else y
@[go_sem] theorem ZjP {x y} :vif true x y=x:=Zm rfl rfl
@[go_sem] theorem Zfi {x y} :vif false x y=y:=Zm rfl rfl
@[go_sem] theorem ZjO {b x y} :vif b (.p (.bool x)) (.p (.bool y))= .p (.bool (if b then x else y)):=by cases b<;>rfl
@[go_sem] theorem Zgp {b} :vM (.p (.bool b))=some b:=Zm rfl rfl
@[go_sem ↓] theorem vY {c x y} :Zv P ⟨d,.pick c x y,t,ps,af,g⟩ fr H k=A9 ((vM (ev fr c)).map fun b=>vif b (ev fr x) (ev fr y)) (Zt (fun v=>k v H) ⟨⟩):=by
 rw [XF rfl rfl];simp only [Z8,XZ]
 cases vM (ev fr c)<;>rfl
@[go_sem ↓] theorem vV {u x} :Zv P ⟨d,.load u x,t,ps,af,g⟩ fr H k=A9 (Q0 P H u (ev fr x)) (Zt (fun v=>k v H) ⟨⟩):=by rw [XF rfl rfl];rfl
@[go_sem ↓] theorem dD {x} :Zv P ⟨d,.nilCheck x,t,ps,af,g⟩ fr H k=A9 (if Y6 H (ev fr x)||gW (ev fr x) then some (ev fr x) else none) (Zt (fun v=>k v H) ⟨⟩):=by rw [XF rfl rfl];rfl
@[go_sem ↓] theorem Zdn {op u x y u2} :Zv P ⟨d,.binOp op u x y u2,t,ps,af,g⟩ fr H k=A9 ((Yb P op u (ev fr x) (ev fr y)).map .p) (Zt (fun v=>k v H) ⟨⟩):=by rw [XF rfl rfl];rfl
@[go_sem ↓] theorem Zgt {op u x} :Zv P ⟨d,.unOp op u x,t,ps,af,g⟩ fr H k=A9 ((aun op (ev fr x)).map .p) (Zt (fun v=>k v H) ⟨⟩):=by rw [XF rfl rfl];rfl
def jA (x y:Option PV):Option PV:=match x with | some z=>some z | none=>y
@[go_sem] theorem ZbR {z y} :jA (some z) y=some z:=Zm rfl rfl
@[go_sem] theorem ZbQ {y} :jA none y=y:=Zm rfl rfl
@[go_sem ↓] theorem vU {s u x} :Zv P ⟨d,.convert s u x,t,ps,af,g⟩ fr H k=A9 ((jA (CS P H s u (ev fr x)) (LM P s u (ev fr x))).map .p) (Zt (fun v=>k v H) ⟨⟩):=by
 rw [XF rfl rfl];simp only [Z8,XZ]
 cases CS P H s u (ev fr x)<;>rfl
@[go_sem ↓] theorem dC {f cs es} :Zv P ⟨d,.makeFunc f (List.toArray cs) (List.toArray es),t,ps,af,g⟩ fr H k=k (.fn f (cs.map (ev fr)) (es.map (ev fr))) H:=by rfl
@[go_sem ↓] theorem tB {u x lo hi mx} :Zv P ⟨d,.slice u x lo hi mx,t,ps,af,g⟩ fr H k=A9 (WX P H u fr (ev fr x) lo hi mx) (Zt (fun v=>k v H) ⟨⟩):=by rw [XF rfl rfl];rfl
@[go_sem ↓] theorem bJ {s x f} :Zv P ⟨d,.fieldAddr s x f,t,ps,af,g⟩ fr H k=A9 (Jr P H s f (ev fr x)) (Zt (fun v=>k v H) ⟨⟩):=by rw [XF rfl rfl];rfl
@[go_sem ↓] theorem bK {u x i} :Zv P ⟨d,.indexAddr u x i,t,ps,af,g⟩ fr H k=A9 (QC P H u (evx fr x) (ev fr i)) (Zt (fun v=>k v H) ⟨⟩):=by rw [XF rfl rfl];rfl
@[go_sem ↓] theorem tA {u x i} :Zv P ⟨d,.index u x i,t,ps,af,g⟩ fr H k=A9 (LO P u (ev fr x) (ev fr i)) (Zt (fun v=>k v H) ⟨⟩):=by rw [XF rfl rfl];rfl
def axt (x:V) (i:Nat):Option V:=match x with | .tup vs=>vs[i]? | _=>none
@[go_sem] theorem Zkk {vs i} :axt (.tup vs) i=vs[i]? :=Zm rfl rfl
@[go_sem ↓] theorem mB {x i} :Zv P ⟨d,.extract x i,t,ps,af,g⟩ fr H k=A9 (axt (ev fr x) i) (Zt (fun v=>k v H) ⟨⟩):=by
 rw [XF rfl rfl]
 rfl
@[go_sem ↓] theorem sZ {u l} :Zv P ⟨d,.build u (List.toArray l),t,ps,af,g⟩ fr H k=A9 (EE P H u (l.map fun x=>(x.1,ev fr x.2))) (Zt (fun v=>k v H) ⟨⟩):=by rw [XF rfl rfl];rfl
@[go_sem ↓] theorem Zdp {x u} :Zv P ⟨d,.call ⟨.builtin .len,#[x],#[u]⟩,t,ps,af,g⟩ fr H k=A9 ((cQ P H u (ev fr x)).map .p) (Zt (fun v=>k v H) ⟨⟩):=by rw [XF rfl rfl];rfl
@[go_sem ↓] theorem Zdq {x y us} :Zv P ⟨d,.call ⟨.builtin .max,#[x,y],us⟩,t,ps,af,g⟩ fr H k=A9 ((H8 false [ev fr x,ev fr y]).map .p) (Zt (fun v=>k v H) ⟨⟩):=by
 rw [XF rfl rfl];rfl
@[go_sem ↓] theorem sY {u} :Zv P ⟨d,.alloc u,t,ps,af,g⟩ fr H k=AR ((Xc P u).map fun zs=>(.ptr H.length 0,H++ [.cells (zs.map .p)])) (Zt k ⟨⟩):=by rfl
@[go_sem ↓] theorem Zdo {u x} :Zv P ⟨d,.box u x,t,ps,af,g⟩ fr H k=AR ((vc H (ev fr x)).map fun cs=>(.ptr H.length 0,H++ [.cells cs])) (Zt k ⟨⟩):=by rfl
def wA (H:List Obj) (n:Option Nat) (a:V) (cs:Option (List V)):Option (List Obj):=n.bind fun n=>cs.bind fun cs=>AX H n a cs
@[go_sem] theorem Zds {n a cs} :wA H (some n) a (some cs)=AX H n a cs:=Zm rfl rfl
@[go_sem ↓] theorem tC {u x y} :Zv P ⟨d,.store u x y,t,ps,af,g⟩ fr H k=hst (wA H (YJ P u) (ev fr x) (vc H (ev fr y))) (Zt (k .junk) ⟨⟩):=by
 rw [SN rfl rfl];simp only [WJ,wA]
 cases YJ P u<;>cases vc H (ev fr y)<;>simp [hst,AR,Zt]
 grind
@[go_sem ↓] theorem SM {u n l} :Zv P ⟨d,.buildSlice u n (List.toArray l),t,ps,af,g⟩ fr H k=AR (WJ P (.buildSlice u n (List.toArray l)) fr H) (Zt k ⟨⟩):=by rfl
@[go_sem ↓] theorem mC {u} :Zv P ⟨d,.makeMap u none,t,ps,af,g⟩ fr H k=k (.mp H.length) (H++ [.map []]):=by rfl
@[go_sem ↓] theorem nR {u x y ok} :Zv P ⟨d,.lookup u x y ok,t,ps,af,g⟩ fr H k=AR (Bw P H u (ev fr x) (ev fr y) ok) (Zt k ⟨⟩):=by rfl
@[go_sem ↓] theorem vX {u x y z} :Zv P ⟨d,.mapUpdate u x y z,t,ps,af,g⟩ fr H k=AR (Dz P H u (ev fr x) (ev fr y) (ev fr z)) (Zt k ⟨⟩):=by rfl
@[go_sem ↓] theorem bL {u x y} :Zv P ⟨d,.makeSlice u x y,t,ps,af,g⟩ fr H k=AR (WJ P (.makeSlice u x y) fr H) (Zt k ⟨⟩):=by rfl
@[go_sem ↓] theorem nP {x y u u2} :Zv P ⟨d,.call ⟨.builtin .append,#[x,y],#[u,u2]⟩,t,ps,af,g⟩ fr H k=AR (WA P H u u2 (ev fr x) (ev fr y)) (Zt k ⟨⟩):=by rfl
@[go_sem ↓] theorem vT {f azs ts} :Zv P ⟨d,.call ⟨.value f,List.toArray azs,ts⟩,t,ps,af,g⟩ fr H k=Dx P (ev fr f) (azs.map (ev fr)) H (Zt k ⟨⟩):=Zm rfl rfl
@[go_sem ↓] theorem Zf9 {f fs cs azs} :Dx P (.fn (.func f) fs cs) azs H k=ACalls P f (fs++azs++cs) H k:=Zm rfl rfl
@[go_sem ↓] theorem ZcQ {f azs} :Dx P (.p (.fn f)) azs H k=ACalls P f azs H k:=Zm rfl rfl
theorem LK {f f' azs as'} (h:f=f') (h2:azs=as'):Dx P f azs H k=Dx P f' as' H k:=by rw [h,h2]
theorem HU {f azs as' H'} (h2:azs=as') (h3:H=H'):ACalls P f azs H k=ACalls P f as' H' k:=by rw [h2,h3]
theorem LL {x x' A B} (h:x=x'):Ur x A B=Ur x' A B:=by rw [h]
theorem H5 {x x' b A B} (h:x=x'):XE x b A B=XE x' b A B:=by rw [h]
@[go_sem ↓, go_sem] theorem uR {A:Prop} {t B'} :Ur (.p (.bool true)) (Zt A t) B'=A:=by simp [Ur,Zt]
@[go_sem ↓, go_sem] theorem sM {B:Prop} {t B'} :Ur (.p (.bool false)) B' (Zt B t)=B:=by simp [Ur,Zt]
@[go_sem ↓, go_sem] theorem Zc0 {A:Prop} {t B} :XE (.p (.bool true)) true (Zt A t) B=A:=by simp [XE,Zt]
@[go_sem ↓, go_sem] theorem ZcZ {B:Prop} {t A} :XE (.p (.bool true)) false A (Zt B t)=B:=by simp [XE,Zt]
@[go_sem ↓, go_sem] theorem ZcY {B:Prop} {t A} :XE (.p (.bool false)) true A (Zt B t)=B:=by simp [XE,Zt]
@[go_sem ↓, go_sem] theorem ZcX {A:Prop} {t B} :XE (.p (.bool false)) false (Zt A t) B=A:=by simp [XE,Zt]
@[go_sem ↓, go_sem] theorem sO {b} {B:Prop} {t A} :XE (.tup []) b A (Zt B t)=B:=by rfl
theorem Qj {c:Bool} {A B:Prop} {t t'} (h1:c=true->A) (h2:c=false->B):Ur (.p (.bool c)) (Zt A t) (Zt B t'):=⟨h1,h2⟩
theorem VQ {c:Bool} {A B:Prop} {t t'} (h1:c=true->A) (h2:c=false->B):XE (.p (.bool c)) true (Zt A t) (Zt B t'):=⟨h1,fun h=>h2 (by simpa using h)⟩
theorem UU {c:Bool} {A B:Prop} {t t'} (h1:c=true->B) (h2:c=false->A):XE (.p (.bool c)) false (Zt A t) (Zt B t'):=⟨h2,fun h=>h1 (by simpa using h)⟩
theorem Zd {P Q:Prop} (h:Q) (e:Q->P:=by intro h;simp (disch:=omega) only [go_sem,seval];exact h):P:=e h
class Dc (c:Bool) (p q:outParam Prop):Prop where
 t:c=true->p
 f:c=false->q
instance dcD {p : Prop} [Decidable p] : Dc (decide p) p (¬p) := ⟨of_decide_eq_true, of_decide_eq_false⟩
instance (priority := low) dcB {c : Bool} : Dc c (c = true) (c = false) := ⟨id, id⟩
theorem cD {c:Bool} {A B p q:Prop} {t t'} [d:Dc c p q] (h1:p->A) (h2:q->B):Ur (.p (.bool c)) (Zt A t) (Zt B t'):=Qj (fun h=>h1 (d.t h)) (fun h=>h2 (d.f h))
theorem gT {c:Bool} {A B p q:Prop} {t t'} [d:Dc c p q] (h1:p->A) (h2:q->B):XE (.p (.bool c)) true (Zt A t) (Zt B t'):=VQ (fun h=>h1 (d.t h)) (fun h=>h2 (d.f h))
theorem gF {c:Bool} {A B p q:Prop} {t t'} [d:Dc c p q] (h1:p->B) (h2:q->A):XE (.p (.bool c)) false (Zt A t) (Zt B t'):=UU (fun h=>h1 (d.t h)) (fun h=>h2 (d.f h))
@[go_sem] theorem Zk7 {p:Prop} [Decidable p]:(!decide p)=decide (¬p):=Zb
end ops
attribute [congr] Oi LZ LK HU LL H5
section vals
variable {P : Program} {H : List Obj} {k : IntKind} {t u : TypeId}
@[go_sem] theorem ZfY {a b} :Yb P .add t (.p (.int k a)) (.p (.int k b))=some (.int k (k.wrap (a+b))):=by simp [Yb,QM]
@[go_sem] theorem Zf8 {a b} :Yb P .sub t (.p (.int k a)) (.p (.int k b))=some (.int k (k.wrap (a-b))):=by simp [Yb,QM]
@[go_sem] theorem cC {a b} :Yb P .mul t (.p (.int k a)) (.p (.int k b))=some (.int k (k.wrap (a*b))):=by simp [Yb,QM]
@[go_sem] theorem cF {a b} (h:b≠0):Yb P .quo t (.p (.int k a)) (.p (.int k b))=some (.int k (k.wrap (a.tdiv b))):=by simp [Yb,QM,h]
@[go_sem] theorem Zf6 {a b} (h:b≠0):Yb P .rem t (.p (.int k a)) (.p (.int k b))=some (.int k (a.tmod b)):=by simp [Yb,QM,h]
@[go_sem] theorem bZ {a b} :Yb P .and t (.p (.int k a)) (.p (.int k b))=some (.int k (k.wrap ((BitVec.ofInt k.bits a&&&BitVec.ofInt k.bits b).toNat:Int))):=by simp [Yb,QM]
@[go_sem] theorem PS {a b} :Yb P .or t (.p (.int k a)) (.p (.int k b))=some (.int k (k.wrap ((BitVec.ofInt k.bits a|||BitVec.ofInt k.bits b).toNat:Int))):=by simp [Yb,QM]
@[go_sem] theorem sK {a b} :Yb P .andNot t (.p (.int k a)) (.p (.int k b))=some (.int k (k.wrap ((BitVec.ofInt k.bits a&&& ~~~(BitVec.ofInt k.bits b)).toNat:Int))):=by simp [Yb,QM]
@[go_sem] theorem Zf0 {a b} :Yb P .eql t (.p (.int k a)) (.p (.int k b))=some (.bool (decide (a=b))):=by simp [Yb,QM]
@[go_sem] theorem Zf5 {a b} :Yb P .neq t (.p (.int k a)) (.p (.int k b))=some (.bool (decide (¬a=b))):=by simp [Yb,QM]
@[go_sem] theorem Zf4 {a b} :Yb P .lss t (.p (.int k a)) (.p (.int k b))=some (.bool (decide (a<b))):=by simp [Yb,QM]
@[go_sem] theorem Zf3 {a b} :Yb P .leq t (.p (.int k a)) (.p (.int k b))=some (.bool (decide (a<=b))):=by simp [Yb,QM]
@[go_sem] theorem Zf2 {a b} :Yb P .gtr t (.p (.int k a)) (.p (.int k b))=some (.bool (decide (b<a))):=by simp [Yb,QM]
@[go_sem] theorem Zf1 {a b} :Yb P .geq t (.p (.int k a)) (.p (.int k b))=some (.bool (decide (b<=a))):=by simp [Yb,QM]
@[go_sem] theorem cG {a b k'} (h:0<=b):Yb P .shl t (.p (.int k a)) (.p (.int k' b))=some (.int k (k.wrap (a*2^(min b.toNat k.bits)))):=by grind [Yb,QM]
@[go_sem] theorem cH {a b k'} (h:0<=b):Yb P .shr t (.p (.int k a)) (.p (.int k' b))=some (.int k (a.fdiv (2^(min b.toNat k.bits)))):=by grind [Yb,QM]
@[go_sem] theorem Zf7 {op a b} :Yb P op t (.p (.str a)) (.p (.str b))=Ln op a b:=Zm rfl rfl
@[go_sem] theorem ZiY {a b} :Ln .eql a b=some (.bool (decide (a=b))):=Zm rfl rfl
@[go_sem] theorem ZiZ {a b} :Ln .neq a b=some (.bool (decide (¬a=b))):=by simp [Ln]
@[go_sem] theorem kR {a b} (h:a.length+b.length<=9223372036854775807):Ln .add a b=some (.str (a++b)):=by simp [Ln,h]
def ZpA (op:BinOp) (u:Option TypeDesc) (a b:Bool):Option PV:=match op,u with
  | .eql,some .bool=>some (.bool (a==b))
  | .neq,some .bool=>some (.bool (!(a==b)))
  | _,_=>none
end vals
attribute [irreducible] A9 AR hst bst
end Go.AM
namespace Go.AM
open Go.RowKit
section vals
variable {P : Program} {H : List Obj} {k : IntKind} {t u : TypeId}
def xD (g:Bool) (op:BinOp) (r:Option Bool):Option PV:=if g then none else match op with
 | .eql=>r.map .bool
 | .neq=>r.map fun r=> .bool (!r)
 | _=>none
@[go_sem] theorem ZfZ {op a b} :Yb P op t (.p (.agg a)) (.p (.agg b))=xD (P.eqGuardType P.depth t) op (Va P 9 t (.agg a) (.agg b)):=Zm rfl rfl
@[go_sem] theorem ZgW {b} :xD false .eql (some b)=some (.bool b):=Zm rfl rfl
@[go_sem] theorem ZgX {b} :xD false .neq (some b)=some (.bool (!b)):=Zm rfl rfl
def Gp (P:Program) (d:Nat) (t:TypeId) (D:Option TypeDesc) (x y:PV):Option Bool:=match D,x,y with
  | some .bool,.bool a,.bool b=>some (a==b)
  | some (.int _),.int k a,.int k' b=>if k=k' then some (decide (a=b)) else none
  | some .string,.str a,.str b=>some (decide (a=b))
  | some (.struct fs),.agg a,.agg b=>if P.stoodInHeld t then none else Bq (Va P d) P fs.toList a b
  | some (.array n e),.agg a,.agg b=>match YJ P e with | some m=>SA (Va P d e) P e m n 0 a b | none=>none
  | _,_,_=>none
@[go_sem] theorem ZcU {d x y} :Va P (d+1) t x y=Gp P d t (P.underlying t) x y:=Zm rfl rfl
@[go_sem] theorem ZcT {d a b} :Gp P d t (some .bool) (.bool a) (.bool b)=some (a==b):=Zm rfl rfl
@[go_sem] theorem Zgb {d k0 a b} :Gp P d t (some (.int k0)) (.int k a) (.int k b)=some (decide (a=b)):=by simp [Gp]
theorem Qk {d fs a b} (h:P.stoodInHeld t=false):Gp P d t (some (.struct fs)) (.agg a) (.agg b)=Bq (Va P d) P fs.toList a b:=by simp [Gp,h]
def DX (x y:Option Bool):Option Bool:=x.bind fun p=>y.map fun q=>p&&q
@[go_sem] theorem Zd1 {p q} :DX (some p) (some q)=some (p&&q):=Zm rfl rfl
def bN (f:PV->PV->Option Bool) (x y:Option PV):Option Bool:=x.bind fun x=>y.bind fun y=>f x y
@[go_sem] theorem ZgO {f x y} :bN f (some x) (some y)=f x y:=Zm rfl rfl
@[go_sem] theorem Br {f a b} :Bq f P [] a b=some true:=Zm rfl rfl
@[go_sem] theorem KW {f fi r a b} : Bq f P (fi :: r) a b = if fi.name = "_" then Bq f P r a b else DX (bN (f fi.type) (apart P fi.type a fi.offset) (apart P fi.type b fi.offset)) (Bq f P r a b) := by
 simp only [Bq]
 split
 ·rfl
 ·cases apart P fi.type a fi.offset<;>cases apart P fi.type b fi.offset<;>simp [bN,DX]
  rename_i x y
  cases f fi.type x y<;>cases Bq f P r a b<;>rfl
def Zgm (g:Option Bool) (s:Option Nat) (cs:List PV) (off:Nat):Option PV:=match g,s with
 | some true,some n=>if off+n<=cs.length then some (.agg ((cs.drop off).take n)) else none
 | some false,_=>cs[off]?
 | _,_=>none
@[go_sem] theorem Zgl {cs off} :apart P t cs off=Zgm (XC P t) (YJ P t) cs off:=Zm rfl rfl
@[go_sem] theorem Zgn {s cs off} :Zgm (some false) s cs off=cs[off]? :=Zm rfl rfl
def Of (g:Option Bool) (s:Option Nat) (H:List Obj) (x:V):Option V:=match g,s with
 | some true,some n=>(Ub H x n).map mkA
 | some false,_=>match Ub H x 1 with
  | some (c::_)=>some c
  | _=>none
 | _,_=>none
def hdO (x:Option (List V)):Option V:=match x with | some (c::_)=>some c | _=>none
@[go_sem] theorem Zg0 {c l} :hdO (some (c::l))=some c:=Zm rfl rfl
@[go_sem] theorem Zgg {x} :Q0 P H t x=Of (XC P t) (YJ P t) H x:=Zm rfl rfl
@[go_sem] theorem vB {s x} :Of (some false) s H x=hdO (Ub H x 1):=by rfl
@[go_sem] theorem vA {n x} :Of (some true) (some n) H x=(Ub H x n).map mkA:=Zm rfl rfl
@[go_sem] theorem ZcS {x j n} :Ub H (.lp x j) n=if j+n<=x.cells.length then some (((x.cells.drop j).take n).map .p) else none:=Zm rfl rfl
def jT (ob:Obj) (off n:Nat):Option (List V):=match ob with | .cells cs=>if off+n<=cs.length then some ((cs.drop off).take n) else none | _=>none
@[go_sem] theorem uQ {o off n} :Ub H (.ptr o off) n=jT (oat H o) off n:=Zm rfl rfl
@[go_sem] theorem qL {cs off n} :jT (.cells cs) off n=if off+n<=cs.length then some ((cs.drop off).take n) else none:=Zm rfl rfl
def fA (ob:Obj) (i j tot n:Nat):Option (List V):=match ob with
 | .elems _ xs=>if xs.length=tot/\i<xs.length/\j+n<=(Kg xs i).cells.length then some ((((Kg xs i).cells.drop j).take n).map .p) else none
 | _=>none
@[go_sem] theorem ZcR {o i j tot n} :Ub H (.ep o i j tot) n=fA (oat H o) i j tot n:=Zm rfl rfl
@[go_sem] theorem oO {S xs i j tot n} :fA (.elems S xs) i j tot n=if xs.length=tot/\i<xs.length/\j+n<=(Kg xs i).cells.length then some ((((Kg xs i).cells.drop j).take n).map .p) else none:=Zm rfl rfl
@[go_sem] theorem ZdA {cs} :(PV.agg cs).cells=cs:=Zm rfl rfl
@[go_sem] theorem ZdC {n} :(PV.int k n).cells= [.int k n]:=Zm rfl rfl
@[go_sem] theorem wJ {b} :(PV.bool b).cells= [.bool b]:=Zm rfl rfl
@[go_sem] theorem ZdD {s} :(PV.str s).cells= [.str s]:=Zm rfl rfl
@[go_sem] theorem wK {c xs} :(PV.list c xs).cells= [.list c xs]:=Zm rfl rfl
@[go_sem] theorem Zk9 {n} :(PV.int k n).one=true:=Zm rfl rfl
@[go_sem] theorem ZiH {b} :(PV.bool b).one=true:=Zm rfl rfl
@[go_sem] theorem Zla {s} :(PV.str s).one=true:=Zm rfl rfl
@[go_sem] theorem ZiI {c xs} :(PV.list c xs).one=true:=Zm rfl rfl
@[go_sem] theorem ZmN {cs} :mkA cs=match QD cs with | some ps=> .p (.agg ps) | none=> .agg cs:=Zm rfl rfl
@[go_sem] theorem Zgf : QD []=some []:=Zm rfl rfl
@[go_sem] theorem Zc6 {x r} :QD (.p x::r)=(QD r).map (x:: ·):=by rfl
def D3 (n:Option Nat) (a:Bool) (x:V):Option V:=match n with | some n=>if a then some (Bx n x) else none | none=>none
@[go_sem] theorem ZcV {s f x} :Jr P H s f x=D3 (ZO P s f) (Y6 H x) x:=Zm rfl rfl
@[go_sem] theorem mN {n x} :D3 (some n) true x=some (Bx n x):=Zm rfl rfl
@[go_sem] theorem Zgj {n x j} :Bx n (.lp x j)= .lp x (j+n):=Zm rfl rfl
@[go_sem] theorem Zdb {n o off} :Bx n (.ptr o off)= .ptr o (off+n):=Zm rfl rfl
@[go_sem] theorem Zgi {n o i j tot} :Bx n (.ep o i j tot)= .ep o i (j+n) tot:=Zm rfl rfl
def RC (ob:Obj):Bool:=match ob with | .cells _=>true | _=>false
@[go_sem] theorem mF {cs} :RC (.cells cs)=true:=Zm rfl rfl
def RD (ob:Obj) (tot:Nat):Bool:=match ob with | .elems _ xs=>decide (xs.length=tot) | _=>false
@[go_sem] theorem mG {S xs tot} :RD (.elems S xs) tot=decide (xs.length=tot):=Zm rfl rfl
def RG (ob:Obj) (tot:Nat):Bool:=match ob with | .elems _ xs=>decide (xs.length=tot) | .cells _=>true | _=>false
@[go_sem] theorem tS {S xs tot} :RG (.elems S xs) tot=decide (xs.length=tot):=Zm rfl rfl
@[go_sem] theorem tR {cs tot} :RG (.cells cs) tot=true:=Zm rfl rfl
@[go_sem] theorem Zge {x j} :Y6 H (.lp x j)=true:=Zm rfl rfl
@[go_sem] theorem uY {o off} :Y6 H (.ptr o off)=RC (oat H o):=Zm rfl rfl
@[go_sem] theorem Zgd {o i j tot} :Y6 H (.ep o i j tot)=RD (oat H o) tot:=Zm rfl rfl
def Uz (e:Option (Option Nat×Nat)) (H:List Obj) (x i:V):Option V:=match e,i with
 | some (none,S),.p (.int _ n)=>match x with
  | .p (.list _ xs)=>if 0<=n/\n<xs.length then (if (Kg xs n.toNat).cells.length=S then some (.lp (Kg xs n.toNat) 0) else none) else none
  | .sl o off len tot=>match oat H o with
   | .elems S' xs=>if xs.length=tot/\S'=S then (if 0<=n/\n<len then some (.ep o (off+n.toNat) 0 tot) else none) else none
   | .cells _=>if S=1/\off=0/\len=tot/\0<=n/\n<len then some (.ptr o n.toNat) else none
   | _=>none
  | _=>none
 | some (some k,S),.p (.int _ n)=>if 0<=n/\n<k then (if Y6 H x then some (Bx (n.toNat*S) x) else none) else none
 | _,_=>none
@[go_sem] theorem Zc2 {x i} :QC P H t x i=Uz (Y0 P t) H x i:=Zm rfl rfl
theorem H6 {S c xs n} (h0:0<=n) (h1:n<(List.length xs:Int)):Uz (some (none,S)) H (.p (.list c xs)) (.p (.int k n))=if (Kg xs n.toNat).cells.length=S then some (.lp (Kg xs n.toNat) 0) else none:=by
 simp_all [Uz]
def nth {α:Type} [Inhabited α] (l:List α) (i:Nat):α:=l.getD i default
theorem Ve {α:Type} [Inhabited α] {f:α->PV} {l:List α} {i:Nat} (h:i<l.length):Kg (l.map f) i=f (nth l i):=by
 simp [Kg,nth,h]
theorem Zk {α:Type} [Inhabited α] {l:List α} {i:Nat} (h:i<l.length):nth l i=l[i]:=by simp [nth,h]
@[go_sem] theorem sQ {α:Type} [Inhabited α] {f:α->PV} {l:List α} {S c n} (h0:0<=n) (h1:n<(l.length:Int)) :
  Uz (some (none,S)) H (.p (.list c (l.map f))) (.p (.int k n))=if (f (nth l n.toNat)).cells.length=S then some (.lp (f (nth l n.toNat)) 0) else none:=by
 grind [H6,Ve]
def F3 (ob:Obj) (S o off len tot:Nat) (n:Int):Option V:=match ob with
 | .elems S' xs=>if xs.length=tot/\S'=S then (if 0<=n/\n<len then some (.ep o (off+n.toNat) 0 tot) else none) else none
 | .cells _=>if S=1/\off=0/\len=tot/\0<=n/\n<len then some (.ptr o n.toNat) else none
 | _=>none
@[go_sem] theorem uU {S o off len tot n} :Uz (some (none,S)) H (.sl o off len tot) (.p (.int k n))=F3 (oat H o) S o off len tot n:=Zm rfl rfl
@[go_sem] theorem Zd8 {S xs o off} {len tot:Nat} {n:Int} (h0:0<=n) (h1:n<(len:Int)) (ht:xs.length=tot):F3 (.elems S xs) S o off len tot n=some (.ep o (off+n.toNat) 0 tot):=by
 grind [F3]
@[go_sem] theorem rI {cs o} {len:Nat} {n:Int} (h0:0<=n) (h1:n<(len:Int)):F3 (.cells cs) 1 o 0 len len n=some (.ptr o n.toNat):=by
 grind [F3]
@[go_sem] theorem sP {n} {m S:Nat} {x} (h0:0<=n) (h1:n<(m:Int)):Uz (some (some m,S)) H x (.p (.int k n))=D3 (some (n.toNat*S)) (Y6 H x) x:=by
 simp_all [Uz,D3]
def PU (H:List Obj) (D:Option TypeDesc) (x:V):Option PV:=match D,x with
 | some (.slice _),.p (.list _ xs)=>some (.int .i64 xs.length)
 | some (.slice _),.sl o _ len tot=>match oat H o with
  | .elems _ xs=>if xs.length=tot then some (.int .i64 len) else none
  | _=>none
 | some .string,.p (.str s)=>some (.int .i64 s.length)
 | some (.array n _),_=>some (.int .i64 n)
 | _,_=>none
@[go_sem] theorem Zkb {x} :cQ P H t x=PU H (P.underlying t) x:=Zm rfl rfl
@[go_sem] theorem uV {e c xs} :PU H (some (.slice e)) (.p (.list c xs))=some (.int .i64 (List.length xs)):=Zm rfl rfl
def Zi2 (ob:Obj) (len tot:Nat):Option PV:=match ob with | .elems _ xs=>if xs.length=tot then some (.int .i64 len) else none | _=>none
@[go_sem] theorem Zgc {e o off len tot} :PU H (some (.slice e)) (.sl o off len tot)=Zi2 (oat H o) len tot:=Zm rfl rfl
@[go_sem] theorem Zch {S xs len tot} :Zi2 (.elems S xs) len tot=if xs.length=tot then some (.int .i64 len) else none:=Zm rfl rfl
@[go_sem] theorem Zc5 {s} :PU H (some .string) (.p (.str s))=some (.int .i64 (List.length s)):=Zm rfl rfl
@[go_sem] theorem Zkj {b} :aun .not (.p (.bool b))=some (.bool (!b)):=Zm rfl rfl
@[go_sem] theorem Zki {n} :aun .neg (.p (.int k n))=some (.int k (k.wrap (0-n))):=Zm rfl rfl
def cJ (D E:Option TypeDesc) (x:V):Option PV:=match D,E,x with
 | some _,some (.int k),.p (.int _ n)=>some (.int k (k.wrap n))
 | some (.int _),some .string,.p (.int _ n)=>if 0<=n/\n<128 then some (.str [UInt8.ofNat n.toNat]) else none
 | some .string,some .string,.p (.str b)=>some (.str b)
 | _,_,_=>none
@[go_sem] theorem Zga {s x} :LM P s t x=cJ (P.underlying s) (P.underlying t) x:=Zm rfl rfl
@[go_sem] theorem uS {D k' n} :cJ (some D) (some (.int k)) (.p (.int k' n))=some (.int k (k.wrap n)):=by rfl
def H4 (E:Option TypeDesc) (H:List Obj) (x:V):Option PV:=match E,x with
  | some (.int .u8),.p (.list _ xs)=>(YQ xs).map .str
  | some (.int .u8),.sl o off len tot=>match oat H o with
   | .elems _ xs=>if xs.length=tot/\off+len<=tot then (YQ ((xs.take (off+len)).drop off)).map .str else none
   | _=>none
  | _,_=>none
def HZ (P:Program) (H:List Obj) (D E:Option TypeDesc) (x:V):Option PV:=match D,E with
 | some (.slice e),some .string=>H4 (P.underlying e) H x
 | _,_=>none
@[go_sem] theorem ZcP {s x} :CS P H s t x=HZ P H (P.underlying s) (P.underlying t) x:=Zm rfl rfl
@[go_sem] theorem sL {E x} :HZ P H (some (.int k)) E x=none:=Zm rfl rfl
@[go_sem] theorem lX {e x} :HZ P H (some (.slice e)) (some .string) x=H4 (P.underlying e) H x:=Zm rfl rfl
def kS (ob:Obj) (off len tot:Nat):Option PV:=match ob with | .elems _ xs=>if xs.length=tot/\off+len<=tot then (YQ ((xs.take (off+len)).drop off)).map .str else none | _=>none
@[go_sem] theorem uP {o off len tot} :H4 (some (.int .u8)) H (.sl o off len tot)=kS (oat H o) off len tot:=Zm rfl rfl
@[go_sem] theorem rD {S xs off len tot} :kS (.elems S xs) off len tot=if xs.length=tot/\off+len<=tot then (YQ ((xs.take (off+len)).drop off)).map .str else none:=Zm rfl rfl
@[go_sem] theorem tH : YQ []=some []:=Zm rfl rfl
@[go_sem] theorem nZ {n r} :YQ (.int .u8 n::r)=(YQ r).map (UInt8.ofNat n.toNat:: ·):=by rfl
@[go_sem] theorem ZlE {a b:Int} (h:0<=a):a.tdiv b=a / b:=Int.tdiv_eq_ediv_of_nonneg h
@[go_sem] theorem ZlQ {a b:Int} (h:0<=a):a.tmod b=a%b:=Int.tmod_eq_emod_of_nonneg h
@[go_sem] theorem Zom {cs} :vc H (.p (.agg cs))=if cs.all (·.one)=true then some (cs.map .p) else none:=by rfl
@[go_sem] theorem ZlR {cs} :vc H (.agg cs)=if cs.all (V.one H)=true then some cs else none:=by rfl
@[go_sem] theorem Zon {n} :vc H (.p (.int k n))=some [.p (.int k n)]:=Zm rfl rfl
@[go_sem] theorem ZlS {n} :vc H (.p (.bool n))=some [.p (.bool n)]:=Zm rfl rfl
@[go_sem] theorem Zoo {n} :vc H (.p (.str n))=some [.p (.str n)]:=Zm rfl rfl
@[go_sem] theorem ZlT {c xs} :vc H (.p (.list c xs))=some [.p (.list c xs)]:=Zm rfl rfl
@[go_sem] theorem Zpy {o off len tot} :vc H (.sl o off len tot)=if RG (oat H o) tot=true then some [.sl o off len tot] else none:=Zm rfl rfl
@[go_sem] theorem Zop {x} :V.one H (.p x)=x.one:=Zm rfl rfl
@[go_sem] theorem ZlW {o off len tot} :V.one H (.sl o off len tot)=RG (oat H o) tot:=Zm rfl rfl
@[go_sem] theorem ZlV {o} :V.one H (.mp o)=RE (oat H o):=Zm rfl rfl
@[go_sem] theorem Zpx {o} :vc H (.mp o)=if RE (oat H o)=true then some [.mp o] else none:=Zm rfl rfl
@[go_sem] theorem ZdR {es} :RE (.map es)=true:=Zm rfl rfl
@[go_sem] theorem Ls {α:Type} {n} {cs:List α} :QY ([]:List α) n cs= []:=by rfl
@[go_sem] theorem Zi6 {α:Type} {x c:α} {l cs} :QY (x::l) 0 (c::cs)=c::QY l 0 cs:=by simp [QY]
@[go_sem] theorem Zd9 {α:Type} {x:α} {l} :QY (x::l) 0 []=x::l:=by simp [QY]
@[go_sem] theorem Zi5 {α:Type} {x:α} {l cs n} :QY (x::l) (n+1) cs=x::QY l n cs:=by simp [QY]
def kB (H:List Obj) (o:Nat) (ob:Obj) (off n:Nat) (cs:List V):Option (List Obj):=match ob with
 | .cells old=>if off+n<=old.length then some (FC H o (.cells (QY old off cs))) else none
 | _=>none
@[go_sem] theorem vZ {n o off cs} :AX H n (.ptr o off) cs=if cs.length=n then kB H o (oat H o) off n cs else none:=Zm rfl rfl
@[go_sem] theorem qQ {o old off n cs} :kB H o (.cells old) off n cs=if off+n<=old.length then some (FC H o (.cells (QY old off cs))) else none:=Zm rfl rfl
def OH (H:List Obj) (o:Nat) (ob:Obj) (i j tot n:Nat) (ps:Option (List PV)):Option (List Obj):=match ob,ps with
 | .elems S xs,some ps=>if xs.length=tot/\i<xs.length/\j+n<=(Kg xs i).cells.length/\ps.all (·.one)=true/\(Kg xs i).cells.all (·.one)=true then
   some (FC H o (.elems S (xs.set i (iM (Kg xs i) (QY (Kg xs i).cells j ps))))) else none
 | _,_=>none
@[go_sem] theorem Zdr {n o i j tot cs} :AX H n (.ep o i j tot) cs=if cs.length=n then OH H o (oat H o) i j tot n (QD cs) else none:=Zm rfl rfl
@[go_sem] theorem wY {α:Type} [Inhabited α] {f:α->PV} {l:List α} {o S i j tot n ps} (ht:l.length=tot) (hi:i<l.length):OH H o (.elems S (l.map f)) i j tot n (some ps) =
  if j+n<=(f (nth l i)).cells.length/\ps.all (·.one)=true/\(f (nth l i)).cells.all (·.one)=true then
   some (FC H o (.elems S ((l.map f).set i (iM (f (nth l i)) (QY (f (nth l i)).cells j ps))))) else none:=by
 simp_all [OH,Ve]
@[go_sem] theorem Zk5 {a cs} :iM (.agg a) cs= .agg cs:=Zm rfl rfl
@[go_sem] theorem Zk6 {n c l} :iM (.int k n) (c::l)=c:=Zm rfl rfl
@[go_sem] theorem Ziu {n c l} :iM (.bool n) (c::l)=c:=Zm rfl rfl
@[go_sem] theorem ZcO {l} :EE P H t l=match Xc P t,Bo P t with
 | some zs,some pl=>(Kk H pl (zs.map .p) l).map mkA
 | _,_=>none:=Zm rfl rfl
@[go_sem] theorem ZcW {pl cs} :Kk H pl cs []=some cs:=by simp [Kk]
def cL (H:List Obj) (pl:Nat->Option (Nat×Nat)) (cs:List V) (r:List (Nat×V)) (q:Option (Nat×Nat)) (vs:Option (List V)):Option (List V):=match q,vs with
 | some (off,sz),some vs=>if vs.length=sz/\off+sz<=cs.length then Kk H pl (QY cs off vs) r else none
 | _,_=>none
@[go_sem] theorem uT {pl cs i v r} :Kk H pl cs ((i,v)::r)=cL H pl cs r (pl i) (vc H v):=Zm rfl rfl
@[go_sem] theorem sN {pl cs off sz vs r} :cL H pl cs r (some (off,sz)) (some vs)=if vs.length=sz/\off+sz<=cs.length then Kk H pl (QY cs off vs) r else none:=Zm rfl rfl
@[go_sem] theorem ZmT {l i} :Bn l i=l[i]? :=Zm rfl rfl
@[go_sem] theorem ZmS {n i} :plA n i=some (i*n,n):=Zm rfl rfl
end vals
end Go.AM
namespace Go.AM
open Go.RowKit
section
variable {P : Program} {H : List Obj} {k : IntKind} {t u : TypeId} {fr : List V}
def cR (S:Option Nat) (H:List Obj) (n:Nat) (l:List (Nat×V)):Option (V×List Obj):=match S with
 | some S=>if n=l.length/\n*S<=16777216/\0<S then (Jb H S 0 l).map fun xs=>(.sl H.length 0 n n,H++ [.elems S xs]) else none
 | none=>none
@[go_sem] theorem Zgh {n l} :WJ P (.buildSlice t n (List.toArray l)) fr H=cR (UI P t) H n (l.map fun x=>(x.1,ev fr x.2)):=by
 grind [WJ,UI,cR,Oe]
@[go_sem] theorem uW {S n l} :cR (some S) H n l=if n=l.length/\n*S<=16777216/\0<S then (Jb H S 0 l).map fun xs=>(.sl H.length 0 n n,H++ [.elems S xs]) else none:=Zm rfl rfl
@[go_sem] theorem Ziq {S n} :Jb H S n []=some []:=by simp [Jb]
@[go_sem] theorem ZdW {S n i x r} :Jb H S n ((i,.p x)::r)=if i=n then if x.cells.length=S/\x.cells.all (·.one)=true then (Jb H S (n+1) r).map (x:: ·) else none else none:=by rfl
@[go_sem] theorem ZkV {S n i f r} :Jb H S n ((i,.fn (.func f) [] [])::r)=if i=n then if 1=S then (Jb H S (n+1) r).map (.fn f:: ·) else none else none:=by simp [Jb,pvo,PV.cells,PV.one]
def Qg (P:Program) (t:TypeId):Option (Nat×Nat):=match P.underlying t with
 | some (.slice e)=>match YJ P e,zval P e,(P.info? e).map (·.bytes) with
  | some S,some z,some by'=>if 0<S/\z.cells.length=S/\z.cells.all (·.one)=true/\by'≠0 then some (S,by') else none
  | _,_,_=>none
 | _=>none
theorem EM {S by'} (h:Qg P t=some (S,by')): ∃e z,P.underlying t=some (.slice e)/\YJ P e=some S/\zval P e=some z/\(P.info? e).map (·.bytes)=some by'/\0<S/\z.cells.length=S/\z.cells.all (·.one)=true/\by'≠0:=by
 unfold Qg at h
 grind
def Yy (D:Option TypeDesc) (H:List Obj) (y:V):Option (List PV):=match D,y with
 | some (.slice _),.p (.list _ ys)=>some ys
 | some (.slice _),.sl o off len tot=>match oat H o with
  | .elems _ xs=>if xs.length=tot/\off+len<=tot then some ((xs.take (off+len)).drop off) else none
  | _=>none
 | some .string,.p (.str s)=>some (s.map fun b=> .int .u8 b.toNat)
 | _,_=>none
def lC (ob:Obj) (off len tot:Nat):Option (List PV):=match ob with | .elems _ xs=>if xs.length=tot/\off+len<=tot then some ((xs.take (off+len)).drop off) else none | _=>none
@[go_sem] theorem vN {e c ys} :Yy (some (.slice e)) H (.p (.list c ys))=some ys:=Zm rfl rfl
@[go_sem] theorem Zgs {e o off len tot} :Yy (some (.slice e)) H (.sl o off len tot)=lC (oat H o) off len tot:=Zm rfl rfl
theorem NK {S xs n} (h:List.length xs=n):lC (.elems S xs) 0 n n=some xs:=by grind [lC]
def LS (H:List Obj) (F:Option (Nat×Nat)) (ys:Option (List PV)):Option (V×List Obj):=match F,ys with
 | some (S,by'),some ys=>if KD S ys=true/\ys.length*by'<=140737488355328/\ys.length<=140737488355328 then some (.sl H.length 0 ys.length ys.length,H++ [.elems S ys]) else none
 | _,_=>none
def VT (H:List Obj) (F:Option (Nat×Nat)) (ob:Obj) (o n:Nat) (ys:Option (List PV)):Option (V×List Obj):=match F,ob,ys with
 | some (S,by'),.elems S' xs,some ys=>if S'=S/\xs.length=n/\KD S ys=true/\(n+ys.length)*by'<=140737488355328/\n+ys.length<=140737488355328 then
   some (.sl o 0 (n+ys.length) (n+ys.length),FC H o (.elems S (xs++ys))) else none
 | _,_,_=>none
theorem HW {z x y ys e S by'} (h1:P.underlying t=some (.slice e)) (h2:YJ P e=some S) (h3:zval P e=some z) (h4:(P.info? e).map (·.bytes)=some by') (h5:Gq P H u y=some ys) (h6:0<S/\z.cells.length=S/\z.cells.all (·.one)=true/\by'≠0) :
  WA P H t u x y=if KD S ys=true then (match x with
    | .p (.list cl xs)=>if cl=true/\KD S xs=true/\(xs= []\/0<ys.length)/\(xs.length+ys.length)*by'<=140737488355328/\xs.length+ys.length<=140737488355328 then
      some (.sl H.length 0 (xs.length+ys.length) (xs.length+ys.length),H++ [.elems S (xs++ys)]) else none
    | .sl o off len tot=>match oat H o with
     | .elems S' xs=>if S'=S/\off=0/\len=tot/\xs.length=tot/\(tot+ys.length)*by'<=140737488355328/\tot+ys.length<=140737488355328 then
       some (.sl o 0 (tot+ys.length) (tot+ys.length),FC H o (.elems S (xs++ys))) else none
     | _=>none
    | _=>none) else none:=by
 simp only [WA,h1,h2,h3,h4,h5]
 grind
theorem Bp {y F} (hF:Qg P t=some F):WA P H t u (.p (.list true [])) y=LS H (some F) (Yy (P.underlying u) H y):=by
 obtain ⟨S,by'⟩:=F;obtain ⟨e,z,h1,h2,h3,h4,h6⟩:=EM hF;have e1:Yy (P.underlying u) H y=Gq P H u y:=Zm rfl rfl;rw [e1]
 cases h5:Gq P H u y with
 | none=>grind [WA,LS]
 | some ys =>
  grind [HW,LS,KD]
theorem X6 {y F o n} (hF:Qg P t=some F):WA P H t u (.sl o 0 n n) y=VT H (some F) (oat H o) o n (Yy (P.underlying u) H y):=by
 obtain ⟨S,by'⟩:=F;obtain ⟨e,z,h1,h2,h3,h4,h6⟩:=EM hF;have e1:Yy (P.underlying u) H y=Gq P H u y:=Zm rfl rfl;rw [e1]
 cases h5:Gq P H u y with
 | none =>
  grind [WA,VT]
 | some ys =>
  rw [HW h1 h2 h3 h4 h5 h6];simp only [VT]
  grind
@[go_sem] theorem Zdg {S b ys} :LS H (some (S,b)) (some ys)=if KD S ys=true/\ys.length*b<=140737488355328/\ys.length<=140737488355328 then some (.sl H.length 0 ys.length ys.length,H++ [.elems S ys]) else none:=Zm rfl rfl
theorem GN {S b xs ys o n} (hn:xs.length=n) (hb:(n+ys.length)*b<=140737488355328) (hb2:n+ys.length<=140737488355328):VT H (some (S,b)) (.elems S xs) o n (some ys)=if KD S ys=true then some (.sl o 0 (n+ys.length) (n+ys.length),FC H o (.elems S (xs++ys))) else none:=by
 simp_all [VT]
@[go_sem] theorem Zi8 {α:Type} {S} {f:α->PV} {l:List α} :lC (.elems S (l.map f)) 0 l.length l.length=some (l.map f):=NK Zb
@[go_sem] theorem Zi9 {S x} :lC (.elems S [x]) 0 1 1=some [x]:=NK Zb
@[go_sem] theorem Zdi {α:Type} {S b o x} {f:α->PV} {l:List α} (hb:(l.length+1)*b<=140737488355328) (hb2:l.length+1<=140737488355328):VT H (some (S,b)) (.elems S (l.map f)) o l.length (some [x])=if KD S [x]=true then some (.sl o 0 (l.length+1) (l.length+1),FC H o (.elems S (l.map f++ [x]))) else none :=
 GN Zb Za Za
@[go_sem] theorem Zdj {α β:Type} {S b o} {f:α->PV} {g:β->PV} {l:List α} {m:List β} (hb:(l.length+m.length)*b<=140737488355328) (hb2:l.length+m.length<=140737488355328):VT H (some (S,b)) (.elems S (l.map f)) o l.length (some (m.map g))=if KD S (m.map g)=true then some (.sl o 0 (l.length+m.length) (l.length+m.length),FC H o (.elems S (l.map f++m.map g))) else none:=by
 grind [GN]
@[go_sem] theorem Zk8 {S} :KD S []=true:=Zm rfl rfl
@[go_sem] theorem ZiB {S x l} :KD S (x::l)=((x.cells.length==S)&&x.cells.all (·.one)&&KD S l):=by rfl
theorem Qu {α:Type} {S} {f:α->PV} {l:List α} (h: ∀x,ZbS S (f x)=true):KD S (l.map f)=true:=by grind [KD]
def RO (P:Program) (t:TypeId):Option (Nat×Nat×PV):=match P.underlying t with
  | some (.slice e)=>match YJ P e,zval P e,(P.info? e).map (·.bytes) with
   | some S,some z,some by'=>if z.cells.all (·.one)=true/\z.cells.length=S/\0<S then some (S,by',z) else none
   | _,_,_=>none
  | _=>none
end
def Wj : Nat->List Nat->List V->List V
 | _,_,[]=> []
 | i,[],_::l=> .junk::Wj (i+1) [] l
 | i,k::ks,x::l=>if i=k then x::Wj (i+1) ks l else .junk::Wj (i+1) (k::ks) l
def Kj : List (Nat×V)->List V->List V
 | [],fr=>fr
 | (i,v)::r,fr=>Kj r (pt fr i v)
@[go_sem] theorem ZdS {i ks} :Wj i ks []= []:=by rfl
@[go_sem] theorem ZbG {i x l} :Wj i [] (x::l)= .junk::Wj (i+1) [] l:=by simp [Wj]
@[go_sem] theorem ZbF {i k ks x l} :Wj i (k::ks) (x::l)=if i=k then x::Wj (i+1) ks l else .junk::Wj (i+1) (k::ks) l:=by simp [Wj]
@[go_sem] theorem ZoA : ((0:Nat):Int)=0:=Zm rfl rfl
@[go_sem] theorem ZoB {n:Nat} :((n+1:Nat):Int)=(n:Int)+1:=Zm rfl rfl
@[go_sem] theorem Znr {n:Nat} :((n:Int)).toNat=n:=Zm rfl rfl
@[go_sem] theorem Zi0 {fr} :Kj [] fr=fr:=by simp [Kj]
@[go_sem] theorem Zd7 {i v r fr} :Kj ((i,v)::r) fr=Kj r (pt fr i v):=by simp [Kj]
@[go_sem] theorem Zkg {p q:Prop} [Decidable p] [Decidable q]:(decide p&&decide q)=decide (p/\q):=Zb
@[go_sem] theorem ZbW {p q:Prop} [Decidable p] [Decidable q]:(decide p||decide q)=decide (p\/q):=Zb
theorem Zl {P c fr H Q} {I:Type} (ks:List Nat) (sets:I->List (Nat×V)) (hs:I->List Obj) (R:I->Prop) (μ:I->Nat) (i0:I) (hR:R i0) (h0:Weak H.length fr H (Kj (sets i0) (Wj 0 ks fr)) (hs i0))
  (round: ∀i,R i->Jv [] P c (Kj (sets i) (Wj 0 ks fr)) (hs i) (Qy (fun fr' H'=> ∃i',R i'/\μ i'<μ i/\Weak H.length fr' H' (Kj (sets i') (Wj 0 ks fr)) (hs i')) Q)):AWP P (.loop c) fr H Q :=
 L3 R (fun i=>Kj (sets i) (Wj 0 ks fr)) hs μ i0 hR h0 fun i hi=>Zh [] _ _ _ _ (round i hi)
theorem ZV {P c fr H Q} (cuts:List Nat) {I:Type} (ks:List Nat) (sets:I->List (Nat×V)) (hs:I->List Obj) (R:I->Prop) (μ:I->Nat) (i0:I) (hR:R i0) (h0:Weak H.length fr H (Kj (sets i0) (Wj 0 ks fr)) (hs i0))
  (round: ∀i,R i->Jv cuts P c (Kj (sets i) (Wj 0 ks fr)) (hs i) (Qy (fun fr' H'=> ∃i',R i'/\μ i'<μ i/\Weak H.length fr' H' (Kj (sets i') (Wj 0 ks fr)) (hs i')) Q)):AWP P (.loop c) fr H Q :=
 L3 R (fun i=>Kj (sets i) (Wj 0 ks fr)) hs μ i0 hR h0 fun i hi=>Zh cuts _ _ _ _ (round i hi)
theorem ZH {P x y fr H Q} {I:Type} (ks:List Nat) (sets:I->List (Nat×V)) (hs:I->List Obj) (R:I->Prop)
  (h:Jv [] P x fr H (Qy (fun fr' H'=> ∃i,R i/\Weak H.length fr' H' (Kj (sets i) (Wj 0 ks fr)) (hs i)) Q)) (k: ∀i,R i->AWP P y (Kj (sets i) (Wj 0 ks fr)) (hs i) Q):AWP P (.seq x y) fr H Q :=
 fun F ι a w hr hf=>by
 refine wp_seq (wp_mono (Zh [] _ _ _ _ h F ι a w hr hf) ?_);rintro e a' w' ⟨fr',H',ι',q,g,f⟩
 cases e with
 | normal =>
  obtain ⟨i,hi,hw⟩:=q;obtain ⟨ι2,r2,f2,g2⟩:=hw F ι' a' w' g.rel f;refine wp_mono (k i hi F ι2 a' w' r2 f2) ?_;rintro e2 a2 w2 ⟨fr2,H2,ι3,q2,g3,f3⟩;exact ⟨fr2,H2,ι3,q2,(g2 H ι w (ZI _) g).trans g3,f3⟩
 | exit id=>exact ⟨fr',H',ι',q,g,f⟩
 | goto l=>exact ⟨fr',H',ι',q,g,f⟩
 | ret=>exact ⟨fr',H',ι',q,g,f⟩
 | panic ch=>exact ⟨fr',H',ι',q,g,f⟩
 | outgrown=>exact ⟨fr',H',ι',q,g,f⟩
theorem ZjW {H n x} :Dw H n x x=(refB n x=true\/x= .junk\/ ∃y,bO H n x=some y/\x= .p y):=by
 simp only [Dw,true_and,eq_iff_iff]
 grind
@[go_sem] theorem ZjU {H n x} :Dw H n x .junk=True:=by simp [Dw]
@[go_sem] theorem Zos {H n} {x y:PV} :Dw H n (.p x) (.p y)=(y=x):=by simp [Dw,refB,bO]
@[go_sem] theorem Zl1 {H n o off len tot o' off' len' tot'} :Dw H n (.sl o off len tot) (.sl o' off' len' tot')=((o'=o/\off'=off/\len'=len/\tot'=tot)/\o<n):=by simp [Dw,refB]
@[go_sem] theorem ZjV {H n o off o' off'} :Dw H n (.ptr o off) (.ptr o' off')=((o'=o/\off'=off)/\o<n):=by simp [Dw,refB]
theorem sJ {H n o off len tot y} :Dw H n (.sl o off len tot) (.p y)=(bO H n (.sl o off len tot)=some y):=by simp [Dw]
@[go_sem] theorem ZlX {H n} :N9 H n [] []=True:=by simp [N9]
@[go_sem] theorem ZjR {H n x l x' l'} :N9 H n (x::l) (x'::l')=(Dw H n x x'/\N9 H n l l'):=by simp [N9]
@[go_sem] theorem ZlY {H n l} :N3 H n l []=True:=by simp [N3]
@[go_sem] theorem ZjS {H n x l x' l'} :N3 H n (x::l) (x'::l')=(EC H n x x'/\N3 H n l l'):=by simp [N3]
@[go_sem] theorem Zfk {H n cs cs'} :EC H n (.cells cs) (.cells cs')=N9 H n cs cs':=by simp [EC]
@[go_sem] theorem Zfl {H n S S' xs xs'} :EC H n (.elems S xs) (.elems S' xs')=(S=S'/\xs=xs'):=by simp [EC]
@[go_sem] theorem ZlZ {H n es es2} :EC H n (.map es) (.map es2)=(es=es2):=by simp [EC]
@[go_sem] theorem Zor {H n o o2} :Dw H n (.mp o) (.mp o2)=(o2=o/\o<n):=by simp [Dw,refB,bO]
@[go_sem] theorem ZjT {H n} :EC H n .dead .dead=True:=by simp [EC]
theorem Weak.mk {n0 fr H fr' H'} (h:n0<=H'.length/\H'.length<=H.length/\N9 H H'.length fr fr'/\N3 H H'.length H H'):Weak n0 fr H fr' H':=Weak.of h.1 h.2.2.1 h.2.2.2 h.2.1
theorem wk {n0 fr H fr' H'} (h:n0<=H'.length/\H'.length<=H.length/\N9 H H'.length fr fr'/\N3 H H'.length H H':=by simp (disch:=omega) only [go_sem,seval]):Weak n0 fr H fr' H':=Weak.mk h
theorem we {n0 x H' a b} (h:n0<=List.length b/\List.length b<=H'.length/\N9 H' (List.length b) [x] [a]/\N3 H' (List.length b) H' b:=by simp (disch:=omega) only [go_sem,seval]): ∃y H'',Weak n0 [x] H' [y] H''/\y=a/\H''=b:=⟨_,_,Weak.mk h,rfl,rfl⟩
attribute [go_sem] List.length_cons List.length_nil List.cons_append List.nil_append List.append_nil List.map_cons List.map_nil List.drop_zero List.drop_succ_cons List.drop_nil List.take_succ_cons List.take_zero List.take_nil List.all_cons List.all_nil
 Xh VM and_self true_and and_true Ac Ab Ef BY Qq Vl Bool.and_self Zy if_true Yj WU JN IntWalk.i64_in IntWalk.i32_in IntWalk.u8_in IntWalk.u64_in IntWalk.u32_in
 beq_self_eq_true A4 List.replicate_zero Bool.or_true Bool.true_or Bool.or_false Bool.false_or Yu WE
end Go.AM
namespace Go.AM
open Go.RowKit
theorem RP.weaker {X X':Nat->Prop} {w x v} (h:RP X w x v) (hx: ∀b,X' b->X b):RP X' w x v:=h.ext (w':=w) fun _ hb hs=>⟨fun h=>hb (hx _ h),hs,rfl⟩
theorem Good.forget {F w H' ι' w'} (he:Env F [] w) (hf: ∀b,F b->b<w.heap.size) (g:Good F [] [] w H' ι' w'):Good F [] [] w [] [] w' :=
 .up he ⟨⟨rfl,fun b hb=>by have:=hf b hb;have:=g.size;omega,fun i j b hi=>by simp at hi,fun i b hi=>by simp at hi,fun o cs ho=>by simp at ho,fun o S xs ho=>by simp at ho,fun o es ho=>by simp at ho,fun o T E r bs ho=>by simp at ho⟩,
  g.os,g.tape,g.output,fun b c t h=>(g.shape b c t h).imp (fun h=>absurd h.1 Zb) id,g.size,g.keep,fun _ _ h=>h,fun o ob ho=>by simp at ho⟩
theorem ACalls.pure {P g args} {y:PV} (h:ACalls P g args [] fun x _=>x= .p y):ACalls P g args [] fun x H'=>x= .p y/\H'= []:=by
 refine ⟨h.1,fun F ι w vs hr hv=> ?_⟩;have hι:ι= []:=Ys hr.len;subst hι;refine (h.2 F [] w vs hr hv).mono ?_;rintro e w' ⟨x,H',ι',v,rfl,rfl,gd,rv⟩
 cases rv with | p _ _ rp =>
 exact ⟨_,[],[],v,rfl,⟨rfl,rfl⟩,gd.forget hr.env hr.fin,.p _ _ (rp.weaker fun b hb=> .inl (by rcases hb with hb | hb;exact hb;simp at hb))⟩
theorem Fb {F:Nat->Prop} {w w':World} {H':List Obj} {ι':List (Option Nat)} {v:Value} {o S n:Nat} {xs:List PV} (hF: ∀b,F b->b<w.heap.size) (hn:xs.length=n) (ho:oat H' o= .elems S xs)
  (gd:Good F [] [] w H' ι' w') (rv:RV F H' ι' w' (.sl o 0 n n) v): ∃ι2,Good F [] [] w [.elems S xs] ι2 w'/\RV F [.elems S xs] ι2 w' (.sl 0 0 n n) v:=by
 have hH:=Xp ho Zb;have hlt:=(ZQ.1 hH).1
 have hlt':o<ι'.length:=by rw [gd.rel.len];exact hlt
 have hι':ι'[o]? =some (ι'[o]):=by simp [hlt']
 have hget: ∀ {i:Nat} {q:Option Nat},[ι'[o]][i]? =some q->i=0/\ι'[o]? =some q:=fun {i q} h=>by
  grind
 have hown: ∀b,Own F [ι'[o]] b->Own F ι' b:=fun b hb=>by
  rcases hb with hb | hb
  ·exact .inl hb
  ·simp at hb;right;rw [hb];simp
 refine ⟨[ι'[o]],⟨⟨⟨rfl,fun b hb=> ?_,fun i j b hi hj=> ?_,fun i b hi=> ?_,fun o' cs ho'=> ?_,fun o' S' xs' ho'=> ?_,fun o' es ho'=>by grind,fun o' T E r bs ho'=>by grind⟩,gd.rel.env.le hown⟩,gd.os,gd.tape,gd.output,fun b c t h=>(gd.shape b c t h).imp (fun h=>absurd h.1 Zb) id,gd.size,gd.keep,fun b hb _ h=> ?_,fun o ob ho=>by simp at ho⟩,?_⟩
 ·have:=hF b hb;have:=gd.size;omega
 ·grind
 ·exact gd.rel.avo o b (hget hi).2
 ·grind
 ·cases o' with
  | zero =>
   simp at ho';obtain ⟨rfl,rfl⟩:=ho';rcases gd.rel.elm o _ _ hH with ⟨e1,e2⟩ | ⟨b,c,t,cap,e1,e2,e3,e4,e5,e6,e7⟩
   ·grind
   ·exact .inr ⟨b,c,t,cap,by grind,e2,e3,e4,e5,e6,fun i x j y hi hj=>(e7 i x j y hi hj).weaker hown⟩
  | succ i=>simp at ho'
 ·simp at h;exact gd.own b hb Zb (by rw [h];simp)
 ·cases rv with
  | slNil _ S2 a h1 h2 =>
   rw [hH] at h2;simp at h2;obtain ⟨rfl,rfl⟩:=h2;exact .slNil 0 S a (by grind) rfl
  | sl _ _ _ _ b S2 cap t xs2 c h1 h2 ht hw hcap hl hlen hm =>
   rw [hH] at h2;simp at h2;obtain ⟨rfl,rfl⟩:=h2;exact .sl 0 0 n n b S cap t xs c (by grind) rfl hn hw hcap hl hlen hm
  | slD _ _ _ _ _ h1=>grind
  | slS _ _ _ _ _ S2 xs2 h1 hne=>grind
  | slC _ _ _ _ _ _ hd=>grind
theorem ACalls.fresh {P g args} {S n:Nat} {xs:List PV} (hn:xs.length=n) (h:ACalls P g args [] fun x H'=> ∃o,x= .sl o 0 n n/\oat H' o= .elems S xs):ACalls P g args [] fun x H'=>x= .sl 0 0 n n/\H'= [.elems S xs]:=by
 refine ⟨h.1,fun F ι w vs hr hv=> ?_⟩;have hι:ι= []:=Ys hr.len;subst hι;refine (h.2 F [] w vs hr hv).mono ?_;rintro e w' ⟨x,H',ι',v,rfl,⟨o,rfl,ho⟩,gd,rv⟩;obtain ⟨ι2,g2,r2⟩:=Fb hr.fin hn ho gd rv
 grind
theorem ACalls.freshE {P g args} {α:Type} {S:Nat} {f:α->PV} {R:List α->Prop} (h:ACalls P g args [] fun x H'=> ∃l:List α,R l/\ ∃o,x= .sl o 0 l.length l.length/\oat H' o= .elems S (l.map f)) :
  ACalls P g args [] fun x H'=> ∃l:List α,R l/\x= .sl 0 0 l.length l.length/\H'= [.elems S (l.map f)]:=by
 refine ⟨h.1,fun F ι w vs hr hv=> ?_⟩;have hι:ι= []:=Ys hr.len;subst hι;refine (h.2 F [] w vs hr hv).mono ?_;rintro e w' ⟨x,H',ι',v,rfl,⟨l,hl,o,rfl,ho⟩,gd,rv⟩;obtain ⟨ι2,g2,r2⟩:=Fb hr.fin Zb ho gd rv
 grind
theorem ACalls.frozen {P g args} {S n:Nat} {xs:List PV} (hn:xs.length=n) (h:ACalls P g args [] fun x H'=>x= .sl 0 0 n n/\H'= [.elems S xs]):ACalls P g args [] fun x H'=>x= .p (.list false xs)/\H'= []:=by
 refine ⟨h.1,fun F ι w vs hr hv=> ?_⟩;have hι:ι= []:=Ys hr.len;subst hι;refine (h.2 F [] w vs hr hv).mono ?_;rintro e w' ⟨x,H',ι',v,rfl,⟨rfl,rfl⟩,gd,rv⟩;have hk:Keeps (Own F ι') w' (Own F []) w':=fun b hb hs=>⟨fun h=>hb (.inl (by rcases h with h | h;exact h;simp at h)),hs,rfl⟩
 have:=Bd (S:=S) (xs:=xs) (off:=0) (len:=n) (tot:=n) (Own F []) (fun b hb h=>by
  rcases h with h | h
  ·exact (gd.rel.avo 0 b hb).1 h
  ·simp at h) hk gd.rel rfl hn Za rv
 rw [Xh,Eo,B0 Za] at this;exact ⟨_,[],[],v,rfl,⟨rfl,rfl⟩,gd.forget hr.env hr.fin,.p _ _ this⟩
theorem ACalls.frozenE {P g args} {α:Type} {S:Nat} {f:α->PV} {R:List α->Prop} (h:ACalls P g args [] fun x H'=> ∃l:List α,R l/\x= .sl 0 0 l.length l.length/\H'= [.elems S (l.map f)]) :
  ACalls P g args [] fun x H'=> ∃l:List α,R l/\x= .p (.list false (l.map f))/\H'= []:=by
 refine ⟨h.1,fun F ι w vs hr hv=> ?_⟩;have hι:ι= []:=Ys hr.len;subst hι;refine (h.2 F [] w vs hr hv).mono ?_;rintro e w' ⟨x,H',ι',v,rfl,⟨l,hl,rfl,rfl⟩,gd,rv⟩;have hk:Keeps (Own F ι') w' (Own F []) w':=fun b hb hs=>⟨fun h=>hb (.inl (by rcases h with h | h;exact h;simp at h)),hs,rfl⟩
 have:=Bd (S:=S) (xs:=l.map f) (off:=0) (len:=l.length) (tot:=l.length) (Own F []) (fun b hb h=>by
  rcases h with h | h
  ·exact (gd.rel.avo 0 b hb).1 h
  ·simp at h) hk gd.rel rfl Zb Za rv
 rw [Xh,Eo,B0 Zb] at this;exact ⟨_,[],[],v,rfl,⟨l,hl,rfl,rfl⟩,gd.forget hr.env hr.fin,.p _ _ this⟩
theorem ACalls.useV {P g args} {α:Type} {f:α->PV} {R:α->Prop} {H:List Obj} {K:V->List Obj->Prop} (h:ACalls P g args [] fun x H'=> ∃a:α,R a/\x= .p (f a)/\H'= []) (k: ∀a,R a->K (.p (f a)) H) (ha:Xi 0 args=true:=by rfl):ACalls P g args H K:=by
 refine (h.behind ha H).mono ?_;rintro x H' ⟨y',H1,⟨a,ra,rfl,rfl⟩,rfl,rfl⟩
 grind [shV]
theorem ACalls.useE {P g args} {α:Type} {S:Nat} {f:α->PV} {R:List α->Prop} {H:List Obj} {K:V->List Obj->Prop} (h:ACalls P g args [] fun x H'=> ∃l:List α,R l/\x= .sl 0 0 l.length l.length/\H'= [.elems S (l.map f)])
  (k: ∀l,R l->K (.sl H.length 0 l.length l.length) (H++ [.elems S (l.map f)])) (ha:Xi 0 args=true:=by rfl):ACalls P g args H K:=by
 refine (h.behind ha H).mono ?_;rintro x H' ⟨y',H1,⟨l,rl,rfl,rfl⟩,rfl,rfl⟩
 grind [shV,shO]
theorem ACalls.use {P g args} {y:PV} {H:List Obj} {K:V->List Obj->Prop} (h:ACalls P g args [] fun x H'=>x= .p y/\H'= []) (k:K (.p y) H) (ha:Xi 0 args=true:=by rfl):ACalls P g args H K:=by
 refine (h.behind ha H).mono ?_;rintro x H' ⟨y',H1,⟨rfl,rfl⟩,rfl,rfl⟩
 grind [shV]
theorem ACalls.useF {P g args} {S n:Nat} {xs:List PV} {H:List Obj} {K:V->List Obj->Prop} (h:ACalls P g args [] fun x H'=>x= .sl 0 0 n n/\H'= [.elems S xs]) (k:K (.sl H.length 0 n n) (H++ [.elems S xs])) (ha:Xi 0 args=true:=by rfl):ACalls P g args H K:=by
 refine (h.behind ha H).mono ?_;rintro x H' ⟨y',H1,⟨rfl,rfl⟩,rfl,rfl⟩
 grind [shV,shO]
theorem Zc {P:Program} {g:FuncId} {fn:Func} {c:Code} {args:List V} {y:PV} (hf:P.funcs[g]? =some fn) (hb:fn.body=some c) (hg:Zi P g)
  (h:Jv [] P c (args++List.replicate (fn.ntmps-args.length) .junk) [] (Bb P fn.results.toList fun x _=>x= .p y)):ACalls P g args [] fun x H'=>x= .p y/\H'= [] :=
 (YG hf hb hg (Zh [] _ _ _ _ h)).pure
theorem Ux (cuts:List Nat) {P:Program} {g:FuncId} {fn:Func} {c:Code} {args:List V} {y:PV} (hf:P.funcs[g]? =some fn) (hb:fn.body=some c) (hg:Zi P g)
  (h:Jv cuts P c (args++List.replicate (fn.ntmps-args.length) .junk) [] (Bb P fn.results.toList fun x _=>x= .p y)):ACalls P g args [] fun x H'=>x= .p y/\H'= [] :=
 (YG hf hb hg (Zh cuts _ _ _ _ h)).pure
theorem Uw {P:Program} {g:FuncId} {fn:Func} {c:Code} {args:List V} {S n:Nat} {xs:List PV} (hn:xs.length=n) (hf:P.funcs[g]? =some fn) (hb:fn.body=some c) (hg:Zi P g)
  (h:Jv [] P c (args++List.replicate (fn.ntmps-args.length) .junk) [] (Bb P fn.results.toList fun x H'=> ∃o,x= .sl o 0 n n/\oat H' o= .elems S xs)):ACalls P g args [] fun x H'=>x= .sl 0 0 n n/\H'= [.elems S xs] :=
 (YG hf hb hg (Zh [] _ _ _ _ h)).fresh hn
theorem Gn (cuts:List Nat) {P:Program} {g:FuncId} {fn:Func} {c:Code} {args:List V} {S n:Nat} {xs:List PV} (hn:xs.length=n) (hf:P.funcs[g]? =some fn) (hb:fn.body=some c) (hg:Zi P g)
  (h:Jv cuts P c (args++List.replicate (fn.ntmps-args.length) .junk) [] (Bb P fn.results.toList fun x H'=> ∃o,x= .sl o 0 n n/\oat H' o= .elems S xs)):ACalls P g args [] fun x H'=>x= .sl 0 0 n n/\H'= [.elems S xs] :=
 (YG hf hb hg (Zh cuts _ _ _ _ h)).fresh hn
theorem ZE (cuts:List Nat) {P:Program} {g:FuncId} {fn:Func} {c:Code} {args:List V} {α:Type} {S:Nat} {f:α->PV} {R:List α->Prop} (hf:P.funcs[g]? =some fn) (hb:fn.body=some c) (hg:Zi P g)
  (h:Jv cuts P c (args++List.replicate (fn.ntmps-args.length) .junk) [] (Bb P fn.results.toList fun x H'=> ∃l:List α,R l/\ ∃o,x= .sl o 0 l.length l.length/\oat H' o= .elems S (l.map f))):ACalls P g args [] fun x H'=> ∃l:List α,R l/\x= .sl 0 0 l.length l.length/\H'= [.elems S (l.map f)] :=
 (YG hf hb hg (Zh cuts _ _ _ _ h)).freshE
theorem Weak.ofNil {n0 fr H fr' H'} (t S:Nat) (h:gt fr t= .p (.list true [])) (hn:n0<=H.length) (k:Weak n0 (pt fr t (.sl H.length 0 0 0)) (H++ [.elems S []]) fr' H'):Weak n0 fr H fr' H' :=
 (Weak.nil t S h hn).trans k
end Go.AM
namespace Go.AM
open Go.RowKit
section
variable {P : Program} {H : List Obj} {t : TypeId} {fr : List V}
def EO (e:Option (Option Nat×Nat)) (c:Bool) (xs:List PV) (lo hi:V):Option V:=match e,lo,hi with
 | some (none,S),.p (.int _ a),.p (.int _ b)=>if Bt S xs=true/\0<=a/\a<=b/\b<=xs.length then some (.p (.list (c&&decide (b=xs.length)) ((xs.take b.toNat).drop a.toNat))) else none
 | _,_,_=>none
def V.isInt : V->Option Int
 | .p (.int _ n)=>some n
 | _=>none
theorem V.isInt_some {x:V} {n} (h:x.isInt=some n): ∃k,x= .p (.int k n):=by
 unfold V.isInt at h;grind
theorem QZ {d:Int} {x:Operand} :N8 d fr (some x)=(ev fr x).isInt:=rfl
theorem CV {c xs k k' a b} :(Ju P t c xs a b none).map .p=EO (Y0 P t) c xs (.p (.int k a)) (.p (.int k' b)):=by
 simp only [Ju,EO]
 grind
theorem P3 {e c xs lo hi} (h:lo.isInt=none):EO e c xs lo hi=none:=by
 unfold EO;grind [V.isInt]
theorem P2 {e c xs lo hi} (h:hi.isInt=none):EO e c xs lo hi=none:=by
 unfold EO;grind [V.isInt]
@[go_sem] theorem Zdl {c xs hi} :WX P H t fr (.p (.list c xs)) none (some hi) none=EO (Y0 P t) c xs (.p (.int .i64 0)) (ev fr hi):=by
 simp only [WX,QZ]
 cases h:(ev fr hi).isInt with
 | none=>simp [N8,P2 h]
 | some n=>obtain ⟨k,e⟩:=V.isInt_some h;rw [e,<- CV];rfl
@[go_sem] theorem Zdm {c xs lo} :WX P H t fr (.p (.list c xs)) (some lo) none none=EO (Y0 P t) c xs (ev fr lo) (.p (.int .i64 (List.length xs))):=by
 simp only [WX,QZ]
 cases h:(ev fr lo).isInt with
 | none=>simp [P3 h]
 | some n=>obtain ⟨k,e⟩:=V.isInt_some h;rw [e,<- CV];rfl
@[go_sem] theorem sS {c xs lo hi} :WX P H t fr (.p (.list c xs)) (some lo) (some hi) none=EO (Y0 P t) c xs (ev fr lo) (ev fr hi):=by
 simp only [WX,QZ]
 cases h:(ev fr lo).isInt with
 | none=>simp [P3 h]
 | some n =>
  cases h2:(ev fr hi).isInt with
  | none=>simp [P2 h2]
  | some m=>grind [V.isInt_some,CV]
@[go_sem] theorem Zgr {α:Type} {f:α->PV} {l:List α} {S c k k' a b} (h0:0<=a) (h1:a<=b) (h2:b<=(l.length:Int)) :
  EO (some (none,S)) c (l.map f) (.p (.int k a)) (.p (.int k' b))=if Bt S (l.map f)=true then some (.p (.list (c&&decide (b=l.length)) (((l.take b.toNat).drop a.toNat).map f))) else none:=by
 simp_all [EO]
end
def LN (P:Program) (d:Option TypeDesc) (x i:V):Option V :=
 match d,x,i with
 | some .string,.p (.str s),.p (.int _ n)=>if 0<=n then (s[n.toNat]?).map fun b=> .p (.int .u8 b.toNat) else none
 | some (.array k e),.p (.agg cs),.p (.int _ n)=>if 0<=n/\n<k then (match YJ P e with | some m=>(apart P e cs (n.toNat*m)).map .p | none=>none) else none
 | _,_,_=>none
@[go_sem] theorem Zka {P:Program} {t:TypeId} {x i:V} :LO P t x i=LN P (P.underlying t) x i:=Zm rfl rfl
@[go_sem] theorem Zc1 {P:Program} {s:List UInt8} {k n} (h0:0<=n) (h1:n<(s.length:Int)):LN P (some .string) (.p (.str s)) (.p (.int k n))=some (.p (.int .u8 ((nth s n.toNat).toNat:Nat))):=by
 grind [LN,Zk]
def If (d:Option TypeDesc) (s:List UInt8) (lo hi:V):Option V:=match d,lo,hi with
 | some .string,.p (.int _ a),.p (.int _ b)=>if 0<=a/\a<=b/\b<=s.length then some (.p (.str ((s.take b.toNat).drop a.toNat))) else none
 | _,_,_=>none
theorem nG {d s lo hi} (h:lo.isInt=none):If d s lo hi=none:=by
 unfold If;grind [V.isInt]
theorem nF {d s lo hi} (h:hi.isInt=none):If d s lo hi=none:=by
 unfold If;grind [V.isInt]
section
variable {P : Program} {H : List Obj} {t : TypeId} {fr : List V}
theorem SI {s:List UInt8} {k k' a b} :(match P.underlying t with | some .string=>(if 0<=a/\a<=b/\b<=(s.length:Int) then some (V.p (.str ((s.take b.toNat).drop a.toNat))) else none) | _=>none)=If (P.underlying t) s (.p (.int k a)) (.p (.int k' b)):=by
 simp only [If]
 grind
@[go_sem] theorem nH {s lo hi} :WX P H t fr (.p (.str s)) (some lo) (some hi) none=If (P.underlying t) s (ev fr lo) (ev fr hi):=by
 simp only [WX,QZ]
 cases h:(ev fr lo).isInt with
 | none=>rw [nG h];simp
 | some n =>
  cases h2:(ev fr hi).isInt with
  | none=>rw [nF h2];simp
  | some m =>
   grind [V.isInt_some,SI]
def LW (e:Option (Option Nat×Nat)) (xs:List PV) (hi mx:V):Option V:=match e,hi,mx with
 | some (none,S),.p (.int _ b),.p (.int _ m)=>if Bt S xs=true/\0<=b/\b<=xs.length/\m=b then some (.p (.list true (xs.take b.toNat))) else none
 | _,_,_=>none
theorem nD {e xs hi mx} (h:hi.isInt=none):LW e xs hi mx=none:=by
 unfold LW;grind [V.isInt]
theorem nE {e xs hi mx} (h:mx.isInt=none):LW e xs hi mx=none:=by
 unfold LW;grind [V.isInt]
@[go_sem] theorem sR {c xs hi mx} :WX P H t fr (.p (.list c xs)) none (some hi) (some mx)=LW (Y0 P t) xs (ev fr hi) (ev fr mx):=by
 simp only [WX,QZ]
 cases h:(ev fr hi).isInt with
 | none=>grind [nD]
 | some n =>
  cases h2:(ev fr mx).isInt with
  | none=>grind [nE]
  | some m =>
   obtain ⟨k,e⟩:=V.isInt_some h;obtain ⟨k2,e2⟩:=V.isInt_some h2;rw [e,e2];simp only [N8,Ju,LW]
   grind
@[go_sem] theorem Zgq {α:Type} {f:α->PV} {l:List α} {S k k' b m} (h0:m=b) (h1:b=(l.length:Int)):LW (some (none,S)) (l.map f) (.p (.int k b)) (.p (.int k' m))=if Bt S (l.map f)=true then some (.p (.list true (l.map f))) else none:=by
 subst h0;subst h1;simp only [LW,Zy]
 by_cases h:Bt S (l.map f)=true
 ·simp_all [B0]
 grind
end
@[go_sem low] theorem cV {H:List Obj} {S b xs ys o n} :VT H (some (S,b)) (.elems S xs) o n (some ys)=if xs.length=n/\KD S ys=true/\(n+ys.length)*b<=140737488355328/\n+ys.length<=140737488355328 then some (.sl o 0 (n+ys.length) (n+ys.length),FC H o (.elems S (xs++ys))) else none:=by simp [VT]
@[go_sem] theorem Zl0 {H:List Obj} {n f a b f' a' b'} :Dw H n (.fn f a b) (.fn f' a' b')=((f'=f/\a'=a/\b'=b)/\refB n (.fn f a b)=true):=by simp [Dw,bO]
@[go_sem] theorem Zle {n f a b} :refB n (.fn f a b)=(Xi n a&&Xi n b):=by simp [refB]
@[go_sem] theorem ZmU {n x} :refB n (.p x)=true:=by simp [refB]
@[go_sem] theorem ZiU {n o off} :refB n (.ptr o off)=decide (o<n):=by simp [refB]
@[go_sem] theorem Zlf {n o off l t} :refB n (.sl o off l t)=decide (o<n):=by simp [refB]
@[go_sem] theorem Zd5 {n} :Xi n []=true:=by simp [Xi]
@[go_sem] theorem Zb7 {n x l} :Xi n (x::l)=(refB n x&&Xi n l):=by simp [Xi]
theorem ACalls.useH {P g args H} {v:V} {H2:List Obj} {K:V->List Obj->Prop} (h:ACalls P g args H fun x H'=>x=v/\H'=H2) (k:K v H2):ACalls P g args H K :=
 h.mono (by grind)
theorem Bu {α:Type} {f:α->PV} {S:Nat} (h: ∀x,(f x).cells.length=S) (l:List α):Bt S (l.map f)=true:=by
 cases l with
 | nil=>rfl
 | cons x l=>simp [Bt,h]
@[go_sem] theorem Zke {k k'} {a b:Int} (h:b<=a):H8 false [.p (.int k a),.p (.int k' b)]=some (.int k a):=by simp [H8];omega
def QE (F:Option (Nat×Nat×PV)) (H:List Obj) (x y:V):Option (V×List Obj):=match F,x,y with
 | some (S,by',z),.p (.int .i64 n),.p (.int .i64 m)=>if n=m/\0<=n/\(by':Int)*n<=281474976710656/\n<=281474976710656 then some (.sl H.length 0 n.toNat n.toNat,H++ [.elems S (List.replicate n.toNat z)]) else none
 | _,_,_=>none
theorem EK {P:Program} {t:TypeId} {fr:List V} {H:List Obj} {x y:Operand} {F} (h:RO P t=some F):WJ P (.makeSlice t x y) fr H=QE (some F) H (ev fr x) (ev fr y):=by
 unfold RO at h
 split at h
 ·rename_i e hu
  split at h
  ·rename_i S' z' b h1 h2 h3
   split at h
   ·rename_i hc;simp at h;subst h
    have h3':(P.info? e).map (fun x=>(x.bytes:Int))=some (b:Int):=by
     cases hi:P.info? e with
     | none=>grind
     | some i=>grind
    simp only [WJ,hu,h2,hc.1,if_true,PY,h1,h3'];generalize ev fr x=X;generalize ev fr y=Y
    by_cases hX: ∃n,X= .p (.int .i64 n)
    ·obtain ⟨n,rfl⟩:=hX
     by_cases hY: ∃m,Y= .p (.int .i64 m)
     ·obtain ⟨m,rfl⟩:=hY;simp [QE,hc.2]
     ·have e1:QE (some (S',b,z')) H (.p (.int .i64 n)) Y=none:=by
       unfold QE;grind
      grind
    ·have e1:QE (some (S',b,z')) H X Y=none:=by
      unfold QE;grind
     grind
   ·cases h
  ·cases h
 ·cases h
@[go_sem] theorem Zda {H:List Obj} {S b:Nat} {z n} (h0:0<=n) (h1:(b:Int)*n<=281474976710656) (h2:n<=281474976710656):QE (some (S,b,z)) H (.p (.int .i64 n)) (.p (.int .i64 n))=some (.sl H.length 0 n.toNat n.toNat,H++ [.elems S (List.replicate n.toNat z)]):=by
 simp_all [QE]
theorem ZbX (x y:Nat) (hx:x<9223372036854775808) (hy:y<9223372036854775808):IntKind.i64.wrap ((BitVec.ofInt 64 (x:Int)|||BitVec.ofInt 64 (y:Int)).toNat:Int)=((x|||y:Nat):Int):=by
 have e:(BitVec.ofInt 64 (x:Int)|||BitVec.ofInt 64 (y:Int)).toNat=x|||y:=by
  grind
 have h:x|||y<2^63:=QQ Za Za
 grind [IntWalk.i64_in]
theorem mP (x y:Nat) (hx:x<9223372036854775808) (hy:y<9223372036854775808):IntKind.i64.wrap ((BitVec.ofInt 64 (x:Int)&&&BitVec.ofInt 64 (y:Int)).toNat:Int)=((x&&&y:Nat):Int):=by
 grind [Nat.and_le_left,IntWalk.i64_in]
@[go_sem high] theorem cE {P:Program} {t:TypeId} {x y:Nat} (hx:x<9223372036854775808) (hy:y<9223372036854775808):Yb P .or t (.p (.int .i64 (x:Int))) (.p (.int .i64 (y:Int)))=some (.int .i64 ((x|||y:Nat):Int)):=by
 rw [PS];exact ZT (fun q=>some (PV.int .i64 q)) (ZbX x y hx hy)
@[go_sem high] theorem Sx {P:Program} {t:TypeId} {x y:Nat} (hx:x<9223372036854775808) (hy:y<9223372036854775808):Yb P .and t (.p (.int .i64 (x:Int))) (.p (.int .i64 (y:Int)))=some (.int .i64 ((x&&&y:Nat):Int)):=by
 rw [bZ];exact ZT (fun q=>some (PV.int .i64 q)) (mP x y hx hy)
def pw (k:Nat):Nat:=2^k
theorem Ex (k:Nat):pw (k+1)=2*pw k:=by grind [pw]
theorem Kc {k m:Nat} (h:k<=m):pw k<=pw m:=Yi Za h
theorem FK (k:Nat):0<pw k:=Nat.pow_pos Za
theorem FJ : pw 62=4611686018427387904:=by decide
@[go_sem high] theorem ZcM {P:Program} {t:TypeId} {k'} {a:Int} (h0:0<=a) (h1:a<=62):Yb P .shl t (.p (.int .i64 1)) (.p (.int k' a))=some (.int .i64 ((pw a.toNat:Nat):Int)):=by
 rw [cG h0]
 have h2:min a.toNat IntKind.i64.bits=a.toNat:=by show min a.toNat 64=a.toNat;omega
 rw [h2,Int.one_mul]
 have h3:((2:Int)^a.toNat)=((pw a.toNat:Nat):Int):=by simp [pw]
 rw [h3];have:=Kc (show a.toNat<=62 by omega)
 grind [FJ,IntWalk.i64_in]
attribute [go_sem] List.length_append List.map_append not_false_eq_true not_true_eq_false false_and and_false true_or or_true false_or or_false Classical.not_not Bool.false_eq_true Bool.and_false Bool.false_and
end Go.AM
namespace Go.AM
open Go.RowKit
theorem II {P ds frJ H} {K K':List V->Prop} : ∀(l:List Oper) (i:Nat) (vals:List V),(∀ys,ys.length=vals.length+l.length->K ys->K' ys)->hd P ds frJ H K i l vals->hd P ds frJ H K' i l vals
 | [],i,vals,hk,h=>hk vals rfl h
 | o::l,i,vals,hk,h=>by
  have ih: ∀y,hd P ds frJ H K (i+1) l (vals++ [y])->hd P ds frJ H K' (i+1) l (vals++ [y]):=fun y=>II l (i+1) (vals++ [y]) fun ys hy=>hk ys (by simp at hy ⊢;omega);simp only [hd] at h ⊢
  split at h
  ·obtain ⟨y,h1,h2⟩:=h;exact ⟨y,h1,ih y h2⟩
  ·unfold XE at h ⊢
   split at h
   ·exact ⟨fun e=>by obtain ⟨y,h1,h2⟩:=h.1 e;exact ⟨y,h1,ih y h2⟩,fun e=>ih _ (h.2 e)⟩
   ·exact ih _ h
   ·exact h.elim
def hall : List (Option Nat)->List V->List V->List V
 | some d::ds,v::vals,fr=>hall ds vals (pt fr d v)
 | none::ds,_::vals,fr=>hall ds vals fr
 | _,_,fr=>fr
theorem A2 (d:Option Nat) (v:V) (ds:List (Option Nat)) (vals:List V): ∀(l:List Nat) (fr:List V),ZJ (d::ds) (v::vals) (l.map (· +1)) fr=ZJ ds vals l fr
 | [],fr=>rfl
 | j::l,fr=>by
  simp only [Zq,ZJ,BY]
  split<;>exact A2 d v ds vals l _
theorem Fg : ∀(ds:List (Option Nat)) (vals:List V) (fr:List V),vals.length=ds.length->ZJ ds vals (List.range ds.length) fr=hall ds vals fr
 | [],[],fr,_=>rfl
 | d::ds,v::vals,fr,h=>by
  have ih:=fun fr=>Fg ds vals fr (by simpa using h);rw [ZA,List.range_succ_eq_map]
  cases d with
  | none=>simp only [ZJ,Ef,hall];rw [A2];exact ih fr
  | some d=>simp only [ZJ,Ef,hall];rw [A2];exact ih _
 | [],_::_,_,h=>by simp at h
 | _::_,[],_,h=>by simp at h
theorem EP {P:Program} {id:Nat} {l:List Oper} {fr:List V} {H:List Obj} {Q:Exit->List V->List Obj->Prop} {t} (hm:P.follows .mixedOrders=true) (hB:WO (List.toArray l) l.length=true)
  (h:hd P (l.map (·.dst)) (Z1 (l.map (·.dst)) fr) H (Zt (fun vals=>Q .normal (hall (l.map (·.dst)) vals (Z1 (l.map (·.dst)) fr)) H) ⟨⟩) 0 l []) :
  AWP P (.region id (Zt (List.toArray l) t) true) fr H Q:=by
 refine GO (ops:=List.toArray l) l.length hm hB ?_;have e0:(List.toArray l).toList=l:=rfl;rw [e0];have e1:(l.map (fun x=>Oper.dst x)).take l.length=l.map (·.dst):=B0 Zb;have e2:l.take l.length=l:=X3
 have e3:l.drop l.length= []:=Zb
 rw [e1,e2,e3];refine II _ _ _ (fun ys hy hk=> ?_) h;have e4:=Fg (l.map (·.dst)) ys (Z1 (l.map (·.dst)) fr) (by grind);rw [Zy] at e4;simp only [Yx];rw [e4];exact hk
def Tf (A:V->Prop) (B:V->Prop):Prop:= ∃y,A y/\B y
section
variable {P : Program} {ds : List (Option Nat)} {frJ : List V} {H : List Obj} {K : List V -> Prop} {i : Nat} {r : List Oper} {vals : List V} {d : Option Nat} {op : Op} {t : TypeId} {ps : String} {af : Array Edge}
@[go_sem ↓] theorem Zmx : hd P ds frJ H K i [] vals=K vals:=Zm rfl rfl
@[go_sem ↓] theorem ZkR : hd P ds frJ H K i (⟨d,op,t,ps,af,none⟩::r) vals=Tf (fun y=>ZG P ⟨d,op,t,ps,af,none⟩ (IJ (ZJ ds vals (ZM i ⟨d,op,t,ps,af,none⟩) frJ)) H (Zt (fun x H'=>x=y/\H'=H) ⟨⟩)) (Zt (fun y=>hd P ds frJ H K (i+1) r (vals++ [y])) ⟨⟩):=Zm rfl rfl
@[go_sem ↓, go_sem] theorem Zmn {v:V} {B:V->Prop} {t} :Tf (fun y=>v=y) (Zt B t)=B v:=by simp [Tf,Zt]
@[go_sem] theorem ZdF {l:List Edge} {g} :ZM i ⟨d,op,t,ps,List.toArray l,g⟩=(l.filter fun e=>Region.binds .any e&&decide (e.on<i)).map (·.on):=Zm rfl rfl
@[go_sem] theorem wD {on} :Region.binds .any ⟨on,.data⟩=true:=Zm rfl rfl
@[go_sem] theorem tF {on} :Region.binds .any ⟨on,.phase⟩=true:=Zm rfl rfl
@[go_sem] theorem tE {on} :Region.binds .any ⟨on,.chain⟩=true:=Zm rfl rfl
@[go_sem] theorem wE {on k} :Region.binds .any ⟨on,.textOnly k⟩=false:=Zm rfl rfl
@[go_sem] theorem Zgx {on k} :Region.binds .any ⟨on,.gcOnly k⟩=false:=Zm rfl rfl
def Rx (ds:List (Option Nat)) (vals:List V) (l:List Nat) (fr:List V) (a:Option (Option Nat)) (v:Option V):List V:=match a,v with
 | some (some d),some v=>ZJ ds vals l (pt fr d v)
 | _,_=>ZJ ds vals l fr
@[go_sem] theorem Zg5 {fr} :ZJ ds vals [] fr=fr:=Zm rfl rfl
@[go_sem] theorem ZdP {j l fr} :ZJ ds vals (j::l) fr=Rx ds vals l fr ds[j]? vals[j]? :=by rfl
@[go_sem] theorem xJ {l fr d v} :Rx ds vals l fr (some (some d)) (some v)=ZJ ds vals l (pt fr d v):=Zm rfl rfl
@[go_sem] theorem ZdJ {d ds v vals fr} :hall (some d::ds) (v::vals) fr=hall ds vals (pt fr d v):=Zm rfl rfl
@[go_sem] theorem ZgZ {fr} :hall [] [] fr=fr:=Zm rfl rfl
@[go_sem] theorem ZdO {fr} :Z1 [] fr=fr:=Zm rfl rfl
@[go_sem] theorem xI {d l fr} :Z1 (some d::l) fr=Z1 l (pt fr d .junk):=Zm rfl rfl
theorem Zn {f azs} {z:PV} {B:V->Prop} {t} (h:ACalls P f azs [] fun x H'=>x= .p z/\H'= []) (k:B (.p z)) (ha:Xi 0 azs=true:=by rfl) :
  Tf (fun y=>ACalls P f azs H (Zt (Zt (fun x H'=>x=y/\H'=H) ⟨⟩) ⟨⟩)) (Zt B t) :=
 ⟨.p z,h.use ⟨rfl,rfl⟩ ha,k⟩
end
section
variable {P : Program} {fr : List V} {H : List Obj} {k : V -> List Obj -> Prop} {d : Option Nat} {t : TypeId} {ps : String} {af : Array Edge} {g : Option (Nat × Bool)}
@[go_sem ↓] theorem vQ {u n l} :ZG P ⟨d,.buildSlice u n (List.toArray l),t,ps,af,g⟩ fr H k=A9 ((PW (UI P u) H n (l.map fun x=>(x.1,ev fr x.2))).map .p) (Zt (fun v=>k v H) ⟨⟩):=by
 grind [ZG,A9,Zt]
@[go_sem] theorem uX {S n l} :PW (some S) H n l=if n=l.length/\n*S<=16777216/\0<S then (Jb H S 0 l).map (.list false) else none:=Zm rfl rfl
@[go_sem ↓] theorem sV {x} :ZG P ⟨d,.move x,t,ps,af,g⟩ fr H k=Zv P ⟨d,.move x,t,ps,af,g⟩ fr H k:=rfl
@[go_sem ↓] theorem lZ {x} :ZG P ⟨d,.assign x,t,ps,af,g⟩ fr H k=Zv P ⟨d,.assign x,t,ps,af,g⟩ fr H k:=rfl
@[go_sem ↓] theorem sW {x y z} :ZG P ⟨d,.pick x y z,t,ps,af,g⟩ fr H k=Zv P ⟨d,.pick x y z,t,ps,af,g⟩ fr H k:=rfl
@[go_sem ↓] theorem nI {x} :ZG P ⟨d,.alloc x,t,ps,af,g⟩ fr H k=Zv P ⟨d,.alloc x,t,ps,af,g⟩ fr H k:=rfl
@[go_sem ↓] theorem vO {x y} :ZG P ⟨d,.box x y,t,ps,af,g⟩ fr H k=Zv P ⟨d,.box x y,t,ps,af,g⟩ fr H k:=rfl
@[go_sem ↓] theorem nK {x y} :ZG P ⟨d,.build x y,t,ps,af,g⟩ fr H k=Zv P ⟨d,.build x y,t,ps,af,g⟩ fr H k:=rfl
@[go_sem ↓] theorem sU {x y} :ZG P ⟨d,.load x y,t,ps,af,g⟩ fr H k=Zv P ⟨d,.load x y,t,ps,af,g⟩ fr H k:=rfl
@[go_sem ↓] theorem nO {x y z} :ZG P ⟨d,.store x y z,t,ps,af,g⟩ fr H k=Zv P ⟨d,.store x y z,t,ps,af,g⟩ fr H k:=rfl
@[go_sem ↓] theorem bI {x} :ZG P ⟨d,.nilCheck x,t,ps,af,g⟩ fr H k=Zv P ⟨d,.nilCheck x,t,ps,af,g⟩ fr H k:=rfl
@[go_sem ↓] theorem nJ {x y z u v} :ZG P ⟨d,.binOp x y z u v,t,ps,af,g⟩ fr H k=Zv P ⟨d,.binOp x y z u v,t,ps,af,g⟩ fr H k:=rfl
@[go_sem ↓] theorem sX {x y z} :ZG P ⟨d,.unOp x y z,t,ps,af,g⟩ fr H k=Zv P ⟨d,.unOp x y z,t,ps,af,g⟩ fr H k:=rfl
@[go_sem ↓] theorem dA {x y z} :ZG P ⟨d,.convert x y z,t,ps,af,g⟩ fr H k=Zv P ⟨d,.convert x y z,t,ps,af,g⟩ fr H k:=rfl
@[go_sem ↓] theorem bH {x y z} :ZG P ⟨d,.makeFunc x y z,t,ps,af,g⟩ fr H k=Zv P ⟨d,.makeFunc x y z,t,ps,af,g⟩ fr H k:=rfl
@[go_sem ↓] theorem SL {x y z} :ZG P ⟨d,.makeSlice x y z,t,ps,af,g⟩ fr H k=Zv P ⟨d,.makeSlice x y z,t,ps,af,g⟩ fr H k:=rfl
@[go_sem ↓] theorem nN {x y z u v} :ZG P ⟨d,.slice x y z u v,t,ps,af,g⟩ fr H k=Zv P ⟨d,.slice x y z u v,t,ps,af,g⟩ fr H k:=rfl
@[go_sem ↓] theorem SJ {x y z} :ZG P ⟨d,.fieldAddr x y z,t,ps,af,g⟩ fr H k=Zv P ⟨d,.fieldAddr x y z,t,ps,af,g⟩ fr H k:=rfl
@[go_sem ↓] theorem nL {x y z} :ZG P ⟨d,.field x y z,t,ps,af,g⟩ fr H k=Zv P ⟨d,.field x y z,t,ps,af,g⟩ fr H k:=rfl
@[go_sem ↓] theorem SK {x y z} :ZG P ⟨d,.indexAddr x y z,t,ps,af,g⟩ fr H k=Zv P ⟨d,.indexAddr x y z,t,ps,af,g⟩ fr H k:=rfl
@[go_sem ↓] theorem nM {x y z} :ZG P ⟨d,.index x y z,t,ps,af,g⟩ fr H k=Zv P ⟨d,.index x y z,t,ps,af,g⟩ fr H k:=rfl
@[go_sem ↓] theorem dB {x y} :ZG P ⟨d,.extract x y,t,ps,af,g⟩ fr H k=Zv P ⟨d,.extract x y,t,ps,af,g⟩ fr H k:=rfl
@[go_sem ↓] theorem sT {x y z} :ZG P ⟨d,.call ⟨.value x,y,z⟩,t,ps,af,g⟩ fr H k=Zv P ⟨d,.call ⟨.value x,y,z⟩,t,ps,af,g⟩ fr H k:=rfl
@[go_sem ↓] theorem vP {y z} :ZG P ⟨d,.call ⟨.builtin .len,y,z⟩,t,ps,af,g⟩ fr H k=Zv P ⟨d,.call ⟨.builtin .len,y,z⟩,t,ps,af,g⟩ fr H k:=rfl
@[go_sem ↓] theorem vR {y z} :ZG P ⟨d,.call ⟨.builtin .max,y,z⟩,t,ps,af,g⟩ fr H k=Zv P ⟨d,.call ⟨.builtin .max,y,z⟩,t,ps,af,g⟩ fr H k:=rfl
@[go_sem ↓] theorem vS {y z} :ZG P ⟨d,.call ⟨.builtin .min,y,z⟩,t,ps,af,g⟩ fr H k=Zv P ⟨d,.call ⟨.builtin .min,y,z⟩,t,ps,af,g⟩ fr H k:=rfl
def Ro (P:Program) (H:List Obj) (t u:TypeId) (x y:V) (k:V->List Obj->Prop):Prop:= ∃S zs,WA P H t u x y=some (.sl H.length 0 zs.length zs.length,H++ [.elems S zs])/\k (.p (.list false zs)) H
@[go_sem ↓] theorem lY {x y u u2} :ZG P ⟨d,.call ⟨.builtin .append,#[x,y],#[u,u2]⟩,t,ps,af,g⟩ fr H k=Ro P H u u2 (ev fr x) (ev fr y) (Zt k ⟨⟩):=rfl
def SG (F:Option (Nat×Nat)) (xs:List PV) (ys:Option (List PV)):Option PV:=match F,ys with
 | some (S,by'),some ys=>if KD S ys=true/\KD S xs=true/\(xs= []\/0<ys.length)/\(xs.length+ys.length)*by'<=140737488355328/\xs.length+ys.length<=140737488355328 then some (.list false (xs++ys)) else none
 | _,_=>none
@[go_sem] theorem Zdk {α:Type} {S b} {f:α->PV} {l:List α} {x:PV} (hb:(l.length+1)*b<=140737488355328) (hb2:l.length+1<=140737488355328):SG (some (S,b)) (l.map f) (some [x])=if KD S [x]=true/\KD S (l.map f)=true then some (.list false (l.map f++ [x])) else none:=by
 grind [SG]
theorem OK {u u2:TypeId} {F} {xs:List PV} {y:V} (hF:Qg P u=some F) {tt} :Ro P H u u2 (.p (.list true xs)) y (Zt k tt)=A9 ((SG (some F) xs (Yy (P.underlying u2) H y)).map .p) (Zt (fun v=>k v H) ⟨⟩):=by
 obtain ⟨S,by'⟩:=F;obtain ⟨e,z,h1,h2,h3,h4,h6⟩:=EM hF;have e1:Yy (P.underlying u2) H y=Gq P H u2 y:=Zm rfl rfl;rw [e1];unfold Ro Zt
 cases h5:Gq P H u2 y with
 | none =>
  grind [WA,SG,A9]
 | some ys =>
  rw [HW h1 h2 h3 h4 h5 h6];simp only [SG]
  by_cases hc:KD S ys=true
  ·rw [if_pos hc];simp only [hc,true_and]
   by_cases hd:KD S xs=true/\(xs= []\/0<ys.length)/\(xs.length+ys.length)*by'<=140737488355328/\xs.length+ys.length<=140737488355328
   ·rw [if_pos hd,if_pos hd];simp only [Ac,A9,eq_iff_iff]
    constructor
    ·simp_all
    ·intro hk;exact ⟨S,xs++ys,Zb,hk⟩
   simp_all [if_neg,A9]
  ·simp [hc,A9]
theorem Ih {o fr' H'} (h:fr=fr') (h2:H=H'):ZG P o fr H k=ZG P o fr' H' k:=by rw [h,h2]
end
attribute [congr] Ih
attribute [go_sem] List.filter_cons List.filter_nil
end Go.AM
namespace Go.AM
open Go.RowKit
mutual
/-- no memory in it -/
def OR : PV->Bool
 | .list _ xs=>xs.isEmpty
 | .agg cs=>Mw cs
 | _=>true
def Mw : List PV->Bool
 | []=>true
 | x::l=>OR x&&Mw l
end
theorem K4 : ∀ {l:List PV},Mw l=true-> ∀(j:Nat) (x:PV),l[j]? =some x->OR x=true
 | [],_,j,x,h=>by simp at h
 | y::l,hh,j,x,h=>by
  simp [Mw] at hh
  cases j with
  | zero=>simp at h;subst h;exact hh.1
  | succ j=>exact K4 hh.2 j x (by simpa using h)
theorem RP.anywhere {X X':Nat->Prop} {w w' x v} (h:RP X w x v) (hf:OR x=true):RP X' w' x v:=by
 induction h with
 | int k n=>exact .int k n
 | bool b=>exact .bool b
 | str s=>exact .str s
 | nilp=>exact .nilp
 | nili=>exact .nili
 | nilf=>exact .nilf
 | nilm=>exact .nilm
 | fn f=>exact .fn f
 | nils cl=>exact .nils cl
 | emp cl a cap hc hm ha=>exact .emp cl a cap hc hm ha
 | list cl xs b off cap S u hX hb hc hm hcl hS hu hr ih =>
  have:xs= []:=by grind [OR]
  subst this;exact .emp cl _ cap (fun h=>by grind) hm (fun _ x hx=>by grind)
 | agg cs a hs _ ih=>exact .agg cs a hs fun j c hj=>ih j c hj (K4 (by grind [OR]) j c hj)
def vw (H:List Obj):V->Option V
 | .p x=>some (.p x)
 | .fn f [] []=>some (.fn f [] [])
 | .sl o off len tot=>match oat H o with
  | .elems _ xs=>if xs.length=tot/\off+len<=tot then some (.p (.list false ((xs.take (off+len)).drop off))) else none
  | _=>none
 | _=>none
def vws (H:List Obj):List V->Option (List V)
 | []=>some []
 | x::l=>match vw H x,vws H l with | some y,some ys=>some (y::ys) | _,_=>none
abbrev AF : Nat->Prop:=fun _=>False
theorem Cp {b:Nat} : ¬Own AF [] b:=by simp [Own]
theorem ZiX {F H ι w x v y} (hr:Rel F H ι w) (h:RV F H ι w x v) (hy:vw H x=some y):RV AF [] [] w y v:=by
 unfold vw at hy
 split at hy
 ·simp at hy;subst hy
  cases h with | p _ _ h=>exact .p _ _ (h.weaker fun b hb=>absurd hb Cp)
 ·simp at hy;subst hy;generalize v=u at h
  cases h with
  | fn _ _ _ a e hs ht _ _=>exact .fn _ [] [] a e hs ht (fun j c hj=>by simp at hj) (fun j c hj=>by simp at hj)
 ·rename_i o off len tot
  split at hy
  ·rename_i S xs ho
   split at hy
   ·rename_i hc;simp at hy;subst hy;exact .p _ _ (Bd _ (fun b _ hb=>Cp hb) (fun b _ hs=>⟨Cp,hs,rfl⟩) hr (Xp ho Zb) hc.1 hc.2 h)
   ·cases hy
  ·cases hy
 ·cases hy
theorem Sq {H} : ∀ {l l':List V},vws H l=some l'->l'.length=l.length/\ ∀(j:Nat) (y:V),l'[j]? =some y-> ∃x,l[j]? =some x/\vw H x=some y
 | [],l',h=>by simp [vws] at h;grind
 | x::l,l',h=>by
  simp only [vws] at h
  split at h
  ·rename_i y ys h1 h2;simp at h;subst h;obtain ⟨e,hg⟩:=Sq h2;refine ⟨by simp [e],fun j z hj=> ?_⟩
   cases j with
   | zero=>simp at hj;subst hj;exact ⟨x,Zb,h1⟩
   | succ j=>obtain ⟨q,q1,q2⟩:=hg j z (by simpa using hj);exact ⟨q,by simpa using q1,q2⟩
  ·cases h
theorem Good.lift {F H ι w H1 ι1 w'} (hr:Rel F H ι w) (g:Good AF [] [] w H1 ι1 w') (h1: ∀(o:Nat) (ob:Obj),H1[o]? =some ob-> ∃S xs,ob= .elems S xs/\Mw xs=true):Good (Own F ι) [] [] w H1 ι1 w':=by
 have hnew: ∀b,some b∈ι1-> ¬b<w.heap.size:=fun b hb hlt=>g.own b hlt Zb hb
 have hold: ∀b,Own F ι b->b<w.heap.size:=fun b hb=>by
  rcases hb with hb | hb
  ·exact hr.fin b hb
  ·obtain ⟨i,hi⟩:=Xb.1 hb;exact (hr.avo i b hi).2
 refine Good.up hr.env.fresh ⟨⟨g.rel.len,fun b hb=>by have:=hold b hb;have:=g.size;omega,g.rel.inj,fun i b hi=> ?_,fun o cs ho=> ?_,fun o S xs ho=> ?_,fun o es ho=>(by grind),fun o T E r bs ho=>(by grind)⟩,g.os,g.tape,g.output,g.shape,g.size,g.keep,g.own,g.hx⟩
 ·refine ⟨fun hb=>hnew b (Xs hi) (hold b hb),(g.rel.avo i b hi).2⟩
 ·grind
 ·rcases g.rel.elm o S xs ho with e | ⟨b,c,t,cap,e1,e2,e3,e4,e5,e6,e7⟩
  ·exact .inl e
  ·refine .inr ⟨b,c,t,cap,e1,e2,e3,e4,e5,e6,fun i x j y hi hj=> ?_⟩;obtain ⟨S',xs',e,hf⟩:=h1 o _ ho;simp at e;obtain ⟨rfl,rfl⟩:=e;have hx:=K4 hf i x hi;refine (e7 i x j y hi hj).anywhere ?_
   cases x<;>simp only [PV.cells] at hj
   case agg cs=>grind [K4,OR]
   all_goals (cases j with
    | zero=>simp at hj;subst hj;exact hx
    | succ j=>simp at hj)
theorem FP {w:World} (he:Env AF [] w):Rel AF [] [] w:=⟨⟨rfl,fun b hb=>hb.elim,fun i j b hi=>by simp at hi,fun i b hi=>by simp at hi,fun o cs ho=>by simp at ho,fun o S xs ho=>by simp at ho,fun o es ho=>by simp at ho,fun o T E r bs ho=>by simp at ho⟩,he⟩
theorem ACalls.view {P g args args'} {y:PV} {H:List Obj} {K:V->List Obj->Prop} (h:ACalls P g args' [] fun x H'=>x= .p y/\H'= []) (hv:vws H args=some args') (hy:OR y=true) (k:K (.p y) H):ACalls P g args H K:=by
 refine ⟨h.1,fun F ι w vs hr hvs=> ?_⟩;obtain ⟨e,hg⟩:=Sq hv;refine (h.2 AF [] w vs (FP hr.env.noth) ⟨by rw [hvs.1,e],fun j c hj=> ?_⟩).mono ?_
 ·obtain ⟨x,h1,h2⟩:=hg j c hj;exact ZiX hr (hvs.2 j x h1) h2
 ·rintro e w' ⟨x,H',ι',v,rfl,⟨rfl,rfl⟩,gd,rv⟩;have g2:=(gd.lift hr (fun o ob ho=>by simp at ho)).behind hr;have hι:ι'= []:=Ys gd.rel.len;subst hι;simp only [Zj,Yt] at g2
  cases rv with | p _ _ rp =>
  exact ⟨_,H,ι,v,rfl,k,g2,.p _ _ (rp.anywhere hy)⟩
def rd1 (H:List Obj):V->Option PV
 | .p x=>some x
 | .sl o off len tot=>match oat H o with
  | .elems _ xs=>if xs.length=tot/\off+len<=tot then some (.list false ((xs.take (off+len)).drop off)) else none
  | _=>none
 | _=>none
def rds (H:List Obj):List V->Option (List PV)
 | []=>some []
 | x::l=>match rd1 H x,rds H l with | some y,some ys=>some (y::ys) | _,_=>none
def rd (H:List Obj):V->Option PV
 | .agg cs=>(rds H cs).map .agg
 | x=>rd1 H x
@[go_sem] theorem Zkc {o off len tot r} :QD (.sl o off len tot::r)=none:=Zm rfl rfl
attribute [go_sem] Option.map_none
end Go.AM
namespace Go.Proofs.YtjkkdmeebhjaiaaGreatDoor.K
open Go Go.AM
def Ed (be:List (Int×Int)) (a b:Nat):Prop:= ∃p∈be,p.1=(a:Int)/\p.2=(b:Int)
inductive Ch (be:List (Int×Int)):Nat->Nat->Prop where
 | one {a b} (h:Ed be a b):Ch be a b
 | more {a b c} (h:Ch be a b) (k:Ed be b c):Ch be a c
def Val (n:Nat) (be:List (Int×Int)):Prop:= ∀p∈be,0<=p.1/\p.1<n/\0<=p.2/\p.2<n
def DU (out:List Nat) (p:Int×Int):List Nat:=out.set p.2.toNat (nth out p.2.toNat|||nth out p.1.toNat|||pw p.1.toNat)
def Ev (out:List Nat) (be:List (Int×Int)):List Nat:=be.foldl DU out
structure Snd (n:Nat) (be:List (Int×Int)) (out:List Nat):Prop where
 len:out.length=n
 lt: ∀b,b<n->nth out b<pw n
 snd: ∀a b,b<n->(nth out b).testBit a=true->Ch be a b
structure Clo (n:Nat) (be:List (Int×Int)) (out:List Nat):Prop extends Snd n be out where
 cmp: ∀a b,Ch be a b->(nth out b).testBit a=true
theorem Es (l:List Nat) (i j v:Nat) (h:j<l.length):nth (l.set i v) j=if i=j then v else nth l j:=by
 grind [nth]
theorem Snd.zero (n be):Snd n be (List.replicate n 0):=by
 refine ⟨Zb,fun b hb=> ?_,fun a b hb h=> ?_⟩
 ·grind [Zk,FK]
 grind [Zk]
theorem J6 (a b:Nat):(pw a).testBit b=decide (a=b):=by grind [pw]
theorem Snd.step {n be out} (hv:Val n be) (hs:Snd n be out) {p} (hp:p∈be):Snd n be (DU out p):=by
 obtain ⟨h1,h2,h3,h4⟩:=hv p hp;refine ⟨by simp [DU,hs.len],fun b hb=> ?_,fun a b hb h=> ?_⟩
 ·rw [DU,Es _ _ _ _ (by rw [hs.len];exact hb)]
  split
  ·have e1:=hs.lt p.2.toNat Za;have e2:=hs.lt p.1.toNat Za
   have e3:pw p.1.toNat<pw n:=by
    have:=Ex p.1.toNat;have h5:pw (p.1.toNat+1)<=pw n:=Kc Za;omega
   exact QQ (QQ e1 e2) e3
  ·exact hs.lt b hb
 ·rw [DU,Es _ _ _ _ (by rw [hs.len];exact hb)] at h
  split at h
  ·rename_i hb2;have hE:Ed be p.1.toNat b:=⟨p,hp,Za,Za⟩;simp only [Ae,W1] at h;rcases h with (h | h) | h
   ·exact hs.snd a b hb (by grind)
   ·exact (hs.snd a _ Za h).more hE
   ·rw [J6] at h;simp at h;subst h;exact .one hE
  ·exact hs.snd a b hb h
theorem Snd.rnd {n be out} (hv:Val n be) (hs:Snd n be out): ∀(l:List (Int×Int)),(∀p∈l,p∈be)->Snd n be (Ev out l):=by
 intro l
 induction l generalizing out with
 | nil=>intro _;exact hs
 | cons p l ih=>intro h;exact ih (hs.step hv (h p Zb)) fun q hq=>h q (by simp [hq])
theorem tV (x y:Nat):x<=x|||y:=Nat.left_le_or
def tot (l:List Nat):Nat:=l.foldr (· + ·) 0
theorem Sl : ∀(l:List Nat) (i v:Nat),i<l.length->tot (l.set i v)+nth l i=tot l+v
 | [],i,v,h=>by simp at h
 | x::l,0,v,h=>by simp [tot,nth];omega
 | x::l,i+1,v,h=>by
  have:=Sl l i v (by simpa using h);simp only [ZK,tot,List.foldr_cons,nth,List.getD_cons_succ] at this ⊢;omega
theorem lJ : ∀(l:List Nat) (m:Nat),(∀i,i<l.length->nth l i<m)->tot l<=l.length*m
 | [],m,h=>by simp [tot]
 | x::l,m,h=>by
  have h0:=h 0 Zb
  have:=lJ l m fun i hi=>by have:=h (i+1) (by grind);grind [nth]
  grind [tot,Xx,nth]
theorem Rg (out:List Nat) (p:Int×Int) (h:p.2.toNat<out.length):tot out<=tot (DU out p)/\(tot (DU out p)=tot out->DU out p=out):=by
 have e:=Sl out p.2.toNat (nth out p.2.toNat|||nth out p.1.toNat|||pw p.1.toNat) h;have h1:nth out p.2.toNat<=nth out p.2.toNat|||nth out p.1.toNat|||pw p.1.toNat:=JM (tV _ _) (tV _ _);refine ⟨by rw [DU];omega,fun he=> ?_⟩;rw [DU] at he ⊢
 have:nth out p.2.toNat|||nth out p.1.toNat|||pw p.1.toNat=nth out p.2.toNat:=Za
 simp_all [Zk]
theorem Pc (out l m):Ev out (l++m)=Ev (Ev out l) m:=by grind [Ev]
theorem Cq {n be} (hv:Val n be): ∀(l:List (Int×Int)) (out:List Nat),(∀p∈l,p∈be)->Snd n be out->tot out<=tot (Ev out l)/\(tot (Ev out l)=tot out->Ev out l=out/\ ∀p∈l,DU out p=out)
 | [],out,_,_=>⟨ZI _,fun _=>⟨rfl,fun p hp=>by simp at hp⟩⟩
 | p::l,out,hl,hs=>by
  obtain ⟨h1,h2,h3,h4⟩:=hv p (hl p Zb);have c:=Rg out p (by rw [hs.len];omega);have r:=Cq hv l (DU out p) (fun q hq=>hl q (by simp [hq])) (hs.step hv (hl p Zb));refine ⟨JM c.1 r.1,fun e=> ?_⟩;have e:tot (Ev (DU out p) l)=tot out:=e
  have e1:tot (DU out p)=tot out:=Za
  have e2:=c.2 e1
  have e3:tot (Ev (DU out p) l)=tot (DU out p):=Za
  obtain ⟨e4,e5⟩:=r.2 e3;rw [e2] at e4 e5;refine ⟨by grind [Ev],fun q hq=> ?_⟩
  grind
theorem Snd.clo {n be out} (hv:Val n be) (hs:Snd n be out) (h:tot (Ev out be)=tot out):Clo n be out:=by
 have hc:=((Cq hv be out (fun _ h=>h) hs).2 h).2
 have key: ∀p∈be,∀a,(a=p.1.toNat\/(nth out p.1.toNat).testBit a=true)->(nth out p.2.toNat).testBit a=true:=fun p hp a ha=>by
  obtain ⟨h1,h2,h3,h4⟩:=hv p hp;have e:=hc p hp
  have e2:nth (DU out p) p.2.toNat=nth out p.2.toNat:=by rw [e]
  rw [DU,Es _ _ _ _ (by rw [hs.len];omega)] at e2;simp only [if_true] at e2;rw [<- e2];simp only [Ae,W1,J6,Zs]
  grind
 refine ⟨hs,fun a b hab=> ?_⟩
 induction hab with
 | one h =>
  obtain ⟨p,hp,e1,e2⟩:=h;have:=key p hp p.1.toNat (.inl rfl)
  grind
 | more _ h ih =>
  obtain ⟨p,hp,e1,e2⟩:=h;have:=key p hp _ (.inr (by rw [e1];exact ih))
  grind
theorem Clo.uniq {n be out out'} (hv:Val n be) (h:Clo n be out) (h':Clo n be out'):out=out':=by
 apply QR (by rw [h.len,h'.len]);intro b h1 h2;rw [<- Zk h1,<- Zk h2];apply B3;intro a;rw [Wl];rw [h.len] at h1;exact ⟨fun e=>h'.cmp a b (h.snd a b h1 e),fun e=>h.cmp a b (h'.snd a b h1 e)⟩
theorem Snd.bound {n be out} (hs:Snd n be out):tot out<=n*pw n:=by
 have:=lJ out (pw n) fun i hi=>hs.lt i (by rw [<- hs.len];exact hi);rwa [hs.len] at this
theorem eD {n be} (hv:Val n be): ∀(k:Nat) (out:List Nat),Snd n be out->n*pw n-tot out<k-> ∃out',Clo n be out'
 | 0,out,_,h=>Za
 | k+1,out,hs,h=>by
  by_cases he:tot (Ev out be)=tot out
  ·exact ⟨out,hs.clo hv he⟩
  ·have hp:=hs.rnd hv be fun _ h=>h;have:=hp.bound;have:=(Cq hv be out (fun _ h=>h) hs).1;exact eD hv k (Ev out be) hp Za
noncomputable def J8 (n:Nat) (be:List (Int×Int)):List Nat:=open Classical in if h: ∃out,Clo n be out then h.choose else []
theorem EY {n be} (hv:Val n be):Clo n be (J8 n be):=by
 have h:=eD hv _ (List.replicate n 0) (Snd.zero n be) (Nat.lt_succ_self _);rw [J8,dif_pos h]
 grind
theorem eC {n be out} (hv:Val n be) (h:Clo n be out):J8 n be=out:=(EY hv).uniq hv h
theorem UO {n be} (hv:Val n be) (a b:Nat) (hb:b<n):(nth (J8 n be) b).testBit a=true↔Ch be a b :=
 ⟨(EY hv).snd a b hb,(EY hv).cmp a b⟩
end Go.Proofs.YtjkkdmeebhjaiaaGreatDoor.K
