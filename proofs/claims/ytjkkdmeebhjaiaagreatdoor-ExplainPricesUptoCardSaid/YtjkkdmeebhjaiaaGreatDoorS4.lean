/- Declarations that the closing texts need, part 4: joined by tools/slim.py. -/
import Derived.Test.YtjkkdmeebhjaiaaGreatDoorS3
set_option linter.unusedVariables false
set_option linter.unusedSimpArgs false
universe u
namespace Go.AM
open Go.RowKit
structure Tk {α:Sort u} (a:α):Type where
def Zu {α:Sort u} (a:α) (_:Tk a):α:=a
@[go_sem] theorem ZeA {α β:Type} {f:α->β} {t x} :Zu f t x=f x:=Zm rfl rfl
@[go_sem ↓] theorem ZeB {α β:Type} {f:α->β->Prop} {t x y} :Zu f t x y=f x y:=Zm rfl rfl
@[go_sem ↓] theorem ZeC {α β γ:Type} {f:α->β->γ->Prop} {t x y z} :Zu f t x y z=f x y z:=Zm rfl rfl
def Bv (x:Option V) (K:V->Prop):Prop:=match x with | some v=>K v | none=>False
def A9 (x:Option (V×List Obj)) (K:V->List Obj->Prop):Prop:=match x with | some (v,H)=>K v H | none=>False
def bst (x:V) (K:Bool->Prop):Prop:=match x with | .p (.bool b)=>K b | _=>False
def hst (x:Option (List Obj)) (K:List Obj->Prop):Prop:=match x with | some H=>K H | none=>False
@[go_sem ↓, go_sem] theorem ZjI {v K} :Bv (some v) K=K v:=Zm rfl rfl
@[go_sem ↓, go_sem] theorem Zjo {v H K} :A9 (some (v,H)) K=K v H:=Zm rfl rfl
@[go_sem ↓, go_sem] theorem ZhX {H K} :hst (some H) K=K H:=Zm rfl rfl
@[congr] theorem ZeU {x x' K} (h:x=x'):Bv x K=Bv x' K:=by rw [h]
@[congr] theorem ZeN {x x' K} (h:x=x'):A9 x K=A9 x' K:=by rw [h]
@[congr] theorem ZeF {x x' K} (h:x=x'):hst x K=hst x' K:=by rw [h]
def Lb (fr:List V):List V:=fr
@[go_sem] theorem Zno {fr} :Lb fr=fr:=Zm rfl rfl
section code
variable {cuts : List Nat} {P : Program} {fr : List V} {H : List Obj} {Q : Exit -> List V -> List Obj -> Prop}
@[go_sem ↓] theorem Zeo : JH cuts P .skip fr H Q=Q .normal fr H:=Zm rfl rfl
@[go_sem ↓] theorem uW {id} {l:List Oper} :JH cuts P (.region id l.toArray false) fr H Q=YA P (l.map (·.dst)) l (Lb fr) H (Zu (Q .normal) ⟨⟩):=by rfl
@[go_sem ↓] theorem xX {id ops} :JH cuts P (.region id ops true) fr H Q=AWP P (.region id (Zu ops ⟨⟩) true) fr H (Zu Q ⟨⟩):=by rfl
@[go_sem ↓] theorem Zhm {x y} :JH [] P (.seq x y) fr H Q=JH [] P x fr H (QJ (fun fr H=>JH [] P y fr H Q) Q):=by
 grind [JH]
def mE (b:Bool) (A B:Prop):Prop:=if b then A else B
def ME (cuts:List Nat):Option Nat->Bool
 | some i=>cuts.contains i
 | none=>false
@[go_sem ↓] theorem Zen {k x y} :JH (k::cuts) P (.seq x y) fr H Q=mE (ME (k::cuts) (M5 x)) (Zu (AWP P (.seq (Zu x ⟨⟩) (Zu y ⟨⟩)) fr H (Zu Q ⟨⟩)) ⟨⟩) (Zu (JH (k::cuts) P x fr H (QJ (fun fr H=>JH (k::cuts) P y fr H Q) Q)) ⟨⟩):=by
 rfl
@[go_sem ↓, go_sem] theorem ZeW {A B:Prop} {t} :mE true (Zu A t) B=A:=by rfl
@[go_sem ↓, go_sem] theorem Zc3 {A B:Prop} {t} :mE false A (Zu B t)=B:=by rfl
theorem P6 {b b' A B} (h:b=b'):mE b A B=mE b' A B:=by rw [h]
@[go_sem ↓] theorem zC {id ops d} :M5 (.region id ops d)=some id:=Zm rfl rfl
@[go_sem ↓] theorem ZlH {x y} :M5 (.seq x y)=M5 x:=Zm rfl rfl
@[go_sem ↓] theorem Zez {id c} :M5 (.block id c)=M5 c:=Zm rfl rfl
@[go_sem ↓] theorem ZhS {c x y} :M5 (.cond c x y)=none:=Zm rfl rfl
@[go_sem ↓] theorem ZhU {c} :M5 (.loop c)=none:=Zm rfl rfl
@[go_sem] theorem yO : ME cuts none=false:=Zm rfl rfl
@[go_sem] theorem Zet {i} :ME [] (some i)=false:=Zm rfl rfl
@[go_sem] theorem yN {k i} :ME (k::cuts) (some i)=(decide (i=k)||ME cuts (some i)):=by rfl
@[go_sem ↓] theorem Zej {c x y} :JH cuts P (.cond c x y) fr H Q=UF (ev fr c) (Zu (JH cuts P x fr H Q) ⟨⟩) (Zu (JH cuts P y fr H Q) ⟨⟩):=Zm rfl rfl
@[go_sem ↓] theorem xW {id c} :JH cuts P (.block id c) fr H Q=JH cuts P c fr H (QS id Q):=Zm rfl rfl
@[go_sem ↓] theorem Zek {id} :JH cuts P (.exit id) fr H Q=Q (.exit id) fr H:=Zm rfl rfl
@[go_sem ↓] theorem Zhl : JH cuts P .ret fr H Q=Q .ret fr H:=Zm rfl rfl
@[go_sem ↓] theorem Zem {c} :JH cuts P (.loop c) fr H Q=AWP P (.loop (Zu c ⟨⟩)) fr H (Zu Q ⟨⟩):=Zm rfl rfl
@[go_sem ↓] theorem Zel {c t} :JH cuts P (Zu c t) fr H Q=JH cuts P c fr H Q:=Zm rfl rfl
theorem Tt {c fr' H'} (h:fr=fr') (h2:H=H'):JH cuts P c fr H Q=JH cuts P c fr' H' Q:=by rw [h,h2]
theorem S6 {c fr' H'} (h:fr=fr') (h2:H=H'):AWP P c fr H Q=AWP P c fr' H' Q:=by rw [h,h2]
@[go_sem ↓] theorem tN {A:List V->List Obj->Prop} :QJ A Q .normal fr H=A fr H:=Zm rfl rfl
@[go_sem ↓] theorem Zdc {A:List V->List Obj->Prop} {id} :QJ A Q (.exit id) fr H=Q (.exit id) fr H:=Zm rfl rfl
@[go_sem ↓] theorem Zf7 {A:List V->List Obj->Prop} :QJ A Q .ret fr H=Q .ret fr H:=Zm rfl rfl
@[go_sem ↓] theorem nM {id} :QS id Q .normal fr H=Q .normal fr H:=Zm rfl rfl
@[go_sem ↓] theorem yA {id} :QS id Q .ret fr H=Q .ret fr H:=Zm rfl rfl
@[go_sem ↓] theorem uZ {id id'} :QS id Q (.exit id') fr H=if id'=id then Q .normal fr H else Q (.exit id') fr H:=Zm rfl rfl
theorem Oe {A:List V->List Obj->Prop} {e fr' H'} (h:fr=fr') (h2:H=H'):QJ A Q e fr H=QJ A Q e fr' H':=by rw [h,h2]
theorem IS {id e fr' H'} (h:fr=fr') (h2:H=H'):QS id Q e fr H=QS id Q e fr' H':=by rw [h,h2]
@[go_sem ↓] theorem vZ {rs} {Q:V->List Obj->Prop} :Bx P rs Q .normal fr H=A9 ((Wa P fr H rs).map fun xs=>(Q5 xs,H)) (Zu Q ⟨⟩):=by
 simp only [Bx,Zu];grind [A9]
@[go_sem ↓] theorem ZjN {rs} {Q:V->List Obj->Prop} :Bx P rs Q .ret fr H=A9 ((Wa P fr H rs).map fun xs=>(Q5 xs,H)) (Zu Q ⟨⟩):=by
 simp only [Bx,Zu];grind [A9]
theorem P1 {rs e fr' H'} {Q:V->List Obj->Prop} (h:fr=fr') (h2:H=H'):Bx P rs Q e fr H=Bx P rs Q e fr' H':=by rw [h,h2]
@[go_sem] theorem ZcW : Wa P fr H []=some []:=Zm rfl rfl
@[go_sem] theorem ZcX {t l} :Wa P fr H (.tmp t::l)=(Wa P fr H l).map (gt fr t:: ·):=by
 simp only [Wa,bH];cases Wa P fr H l<;>rfl
@[go_sem] theorem vX {a t l} :Wa P fr H (.cell a t::l)=(Jb P H t (gt fr a)).bind fun x=>(Wa P fr H l).map (x:: ·):=by
 simp only [Wa,bH];cases Jb P H t (gt fr a)<;>cases Wa P fr H l<;>rfl
@[go_sem] theorem ZcY {x} :Q5 [x]=x:=Zm rfl rfl
@[go_sem] theorem vY : Q5 []= .tup []:=Zm rfl rfl
@[go_sem] theorem P0 {x y l} :Q5 (x::y::l)= .tup (x::y::l):=Zm rfl rfl
end code
attribute [congr] P6 Tt S6 Oe IS P1
@[go_sem] theorem ZlF {x:V} {l} :gt (x::l) 0=x:=Zm rfl rfl
@[go_sem] theorem ZlE {x:V} {l n} :gt (x::l) (n+1)=gt l n:=Zm rfl rfl
@[go_sem] theorem Znl {n} :gt [] n= .junk:=Zm rfl rfl
@[go_sem] theorem Zl1 {x v:V} {l} :pt (x::l) 0 v=v::l:=Zm rfl rfl
@[go_sem] theorem Zl0 {x v:V} {l n} :pt (x::l) (n+1) v=x::pt l n v:=Zm rfl rfl
@[go_sem] theorem ZjK {fr d v} :Up fr (some d) v=pt fr d v:=Zm rfl rfl
@[go_sem] theorem ZjJ {fr v} :Up fr none v=fr:=Zm rfl rfl
@[go_sem] theorem Zjt {x:Obj} {l} :oat (x::l) 0=x:=Zm rfl rfl
@[go_sem] theorem Zjs {x:Obj} {l n} :oat (x::l) (n+1)=oat l n:=Zm rfl rfl
@[go_sem] theorem ZjD {x v:Obj} {l} :F2 (x::l) 0 v=v::l:=Zm rfl rfl
@[go_sem] theorem ZjC {x v:Obj} {l n} :F2 (x::l) (n+1) v=x::F2 l n v:=Zm rfl rfl
@[go_sem] theorem Zlu {fr t} :evx fr (.tmp t)=gt fr t:=Zm rfl rfl
@[go_sem] theorem yU {fr g} :evx fr (.global g)=iM g:=Zm rfl rfl
@[go_sem] theorem Zna {fr t} :ev fr (.tmp t)=gt fr t:=Zm rfl rfl
@[go_sem] theorem Zlr {fr f} :ev fr (.func f)= .fn (.func f) [] []:=Zm rfl rfl
@[go_sem] theorem Zm8 {fr k n} :ev fr (.const (.int k n))= .p (.int k n):=Zm rfl rfl
@[go_sem] theorem Zlq {fr b} :ev fr (.const (.bool b))= .p (.bool b):=Zm rfl rfl
@[go_sem] theorem Zm9 {fr s} :ev fr (.const (.string s))= .p (.str s.data.toList):=Zm rfl rfl
@[go_sem] theorem Zlt {fr} :ev fr (.const (.slice none 0 0))= .p (.list true []):=Zm rfl rfl
@[go_sem] theorem Zls {fr} :ev fr (.const (.pointer none))= .p .nilp:=Zm rfl rfl
@[go_sem] theorem Zm7 {fr l} :ev fr (.const (.agg (List.toArray l)))=match yP l with | some xs=> .p (.agg xs) | none=> .junk:=Zm rfl rfl
@[go_sem] theorem ZhM {fr d} {l:List (Option Nat)} :FF fr (some d::l) 0=gt fr d:=by simp [FF]
@[go_sem] theorem ZhL {fr o n} {l:List (Option Nat)} :FF fr (o::l) (n+1)=FF fr l n:=by simp [FF]
section ops
variable {P : Program} {fr : List V} {H : List Obj} {ds : List (Option Nat)} {K : List V -> List Obj -> Prop} {r : List Oper} {d : Option Nat} {t : TypeId} {ps : String} {af : Array Edge} {g : Option (Nat × Bool)} {k : V -> List Obj -> Prop}
theorem OM {l fr' H'} (h:fr=fr') (h2:H=H'):YA P ds l fr H K=YA P ds l fr' H' K:=by rw [h,h2]
theorem Mo {o fr' H'} (h:fr=fr') (h2:H=H'):Zw P o fr H k=Zw P o fr' H' k:=by rw [h,h2]
@[go_sem ↓] theorem Zha : YA P ds [] fr H K=K fr H:=Zm rfl rfl
@[go_sem] theorem Zd3 {op} :YA P ds (⟨d,op,t,ps,af,none⟩::r) fr H K=Zw P ⟨d,op,t,ps,af,none⟩ fr H (Zu (fun x H'=>YA P ds r (Up fr d x) H' K) ⟨⟩):=Zm rfl rfl
@[go_sem] theorem wX {op j b} :YA P ds (⟨d,op,t,ps,af,some (j,b)⟩::r) fr H K=XI (FF fr ds j) b (Zu (Zw P ⟨d,op,t,ps,af,none⟩ fr H (Zu (fun x H'=>YA P ds r (Up fr d x) H' K) ⟨⟩)) ⟨⟩) (Zu (YA P ds r (Up fr d (.tup [])) H K) ⟨⟩):=by
 rfl
theorem XJ {op:Op} (h:YW op=none) (h2:WU P op fr H=none):Zw P ⟨d,op,t,ps,af,g⟩ fr H k=Bv (Z9 P op fr H) fun x=>k x H:=by
 simp only [Zw,h,L7,h2]
 all_goals (cases Z9 P op fr H<;>rfl)
theorem Tq {op:Op} (h:YW op=none) (h2:Z9 P op fr H=none):Zw P ⟨d,op,t,ps,af,g⟩ fr H k=A9 (WU P op fr H) k:=by
 grind [Zw,L7,A9]
@[go_sem ↓] theorem xR {x} :Zw P ⟨d,.move x,t,ps,af,g⟩ fr H k=k (ev fr x) H:=by rfl
@[go_sem ↓] theorem oZ {x} :Zw P ⟨d,.assign x,t,ps,af,g⟩ fr H k=k (ev fr x) H:=by rfl
def vif (b:Bool) (x y:V):V:=if b then x else y
@[go_sem] theorem ZkF {x y} :vif true x y=x:=Zm rfl rfl
@[go_sem] theorem Zf8 {x y} :vif false x y=y:=Zm rfl rfl
@[go_sem] theorem ZkE {b x y} :vif b (.p (.bool x)) (.p (.bool y))= .p (.bool (if b then x else y)):=by cases b<;>rfl
@[go_sem] theorem Zhf {b} :xH (.p (.bool b))=some b:=Zm rfl rfl
@[go_sem ↓] theorem xT {c x y} :Zw P ⟨d,.pick c x y,t,ps,af,g⟩ fr H k=Bv ((xH (ev fr c)).map fun b=>vif b (ev fr x) (ev fr y)) (Zu (fun v=>k v H) ⟨⟩):=by
 rw [XJ rfl rfl];simp only [Z9,X5]
 cases xH (ev fr c)<;>rfl
@[go_sem ↓] theorem xQ {u x} :Zw P ⟨d,.load u x,t,ps,af,g⟩ fr H k=Bv (Jb P H u (ev fr x)) (Zu (fun v=>k v H) ⟨⟩):=by rw [XJ rfl rfl];rfl
@[go_sem ↓] theorem eM {x} :Zw P ⟨d,.nilCheck x,t,ps,af,g⟩ fr H k=Bv (if Wc H (ev fr x)||jB (ev fr x) then some (ev fr x) else none) (Zu (fun v=>k v H) ⟨⟩):=by rw [XJ rfl rfl];rfl
@[go_sem ↓] theorem Zec {op u x y u2} :Zw P ⟨d,.binOp op u x y u2,t,ps,af,g⟩ fr H k=Bv ((Yd P op u (ev fr x) (ev fr y)).map .p) (Zu (fun v=>k v H) ⟨⟩):=by rw [XJ rfl rfl];rfl
@[go_sem ↓] theorem Zhj {op u x} :Zw P ⟨d,.unOp op u x,t,ps,af,g⟩ fr H k=Bv ((aun op (ev fr x)).map .p) (Zu (fun v=>k v H) ⟨⟩):=by rw [XJ rfl rfl];rfl
def kF (x y:Option PV):Option PV:=match x with | some z=>some z | none=>y
@[go_sem] theorem ZcB {z y} :kF (some z) y=some z:=Zm rfl rfl
@[go_sem] theorem ZcA {y} :kF none y=y:=Zm rfl rfl
@[go_sem ↓] theorem xP {s u x} :Zw P ⟨d,.convert s u x,t,ps,af,g⟩ fr H k=Bv ((kF (De P H s u (ev fr x)) (Md P s u (ev fr x))).map .p) (Zu (fun v=>k v H) ⟨⟩):=by
 rw [XJ rfl rfl];simp only [Z9,X5]
 cases De P H s u (ev fr x)<;>rfl
@[go_sem ↓] theorem eL {f cs es} :Zw P ⟨d,.makeFunc f (List.toArray cs) (List.toArray es),t,ps,af,g⟩ fr H k=k (.fn f (cs.map (ev fr)) (es.map (ev fr))) H:=by rfl
@[go_sem ↓] theorem uU {u x lo hi mx} :Zw P ⟨d,.slice u x lo hi mx,t,ps,af,g⟩ fr H k=Bv (W5 P H u fr (ev fr x) lo hi mx) (Zu (fun v=>k v H) ⟨⟩):=by rw [XJ rfl rfl];rfl
@[go_sem ↓] theorem cR {s x f} :Zw P ⟨d,.fieldAddr s x f,t,ps,af,g⟩ fr H k=Bv (JD P H s f (ev fr x)) (Zu (fun v=>k v H) ⟨⟩):=by rw [XJ rfl rfl];rfl
@[go_sem ↓] theorem cS {u x i} :Zw P ⟨d,.indexAddr u x i,t,ps,af,g⟩ fr H k=Bv (QN P H u (evx fr x) (ev fr i)) (Zu (fun v=>k v H) ⟨⟩):=by rw [XJ rfl rfl];rfl
@[go_sem ↓] theorem uT {u x i} :Zw P ⟨d,.index u x i,t,ps,af,g⟩ fr H k=Bv (Mf P u (ev fr x) (ev fr i)) (Zu (fun v=>k v H) ⟨⟩):=by rw [XJ rfl rfl];rfl
def axt (x:V) (i:Nat):Option V:=match x with | .tup vs=>vs[i]? | _=>none
@[go_sem] theorem Zk9 {vs i} :axt (.tup vs) i=vs[i]? :=Zm rfl rfl
@[go_sem ↓] theorem nK {x i} :Zw P ⟨d,.extract x i,t,ps,af,g⟩ fr H k=Bv (axt (ev fr x) i) (Zu (fun v=>k v H) ⟨⟩):=by
 rw [XJ rfl rfl]
 rfl
@[go_sem ↓] theorem uS {u l} :Zw P ⟨d,.build u (List.toArray l),t,ps,af,g⟩ fr H k=Bv (E5 P H u (l.map fun x=>(x.1,ev fr x.2))) (Zu (fun v=>k v H) ⟨⟩):=by rw [XJ rfl rfl];rfl
@[go_sem ↓] theorem Zee {x u} :Zw P ⟨d,.call ⟨.builtin .len,#[x],#[u]⟩,t,ps,af,g⟩ fr H k=Bv ((dV P H u (ev fr x)).map .p) (Zu (fun v=>k v H) ⟨⟩):=by rw [XJ rfl rfl];rfl
@[go_sem ↓] theorem Zef {x y us} :Zw P ⟨d,.call ⟨.builtin .max,#[x,y],us⟩,t,ps,af,g⟩ fr H k=Bv ((IC false [ev fr x,ev fr y]).map .p) (Zu (fun v=>k v H) ⟨⟩):=by
 rw [XJ rfl rfl];rfl
@[go_sem ↓] theorem uR {u} :Zw P ⟨d,.alloc u,t,ps,af,g⟩ fr H k=A9 ((Xc P u).map fun zs=>(.ptr H.length 0,H++ [.cells (zs.map .p)])) (Zu k ⟨⟩):=by rfl
@[go_sem ↓] theorem Zed {u x} :Zw P ⟨d,.box u x,t,ps,af,g⟩ fr H k=A9 ((vc H (ev fr x)).map fun cs=>(.ptr H.length 0,H++ [.cells cs])) (Zu k ⟨⟩):=by rfl
def xV (H:List Obj) (n:Option Nat) (a:V) (cs:Option (List V)):Option (List Obj):=n.bind fun n=>cs.bind fun cs=>Bh H n a cs
@[go_sem] theorem Zeh {n a cs} :xV H (some n) a (some cs)=Bh H n a cs:=Zm rfl rfl
@[go_sem ↓] theorem uV {u x y} :Zw P ⟨d,.store u x y,t,ps,af,g⟩ fr H k=hst (xV H (YP P u) (ev fr x) (vc H (ev fr y))) (Zu (k .junk) ⟨⟩):=by
 rw [Tq rfl rfl];simp only [WU,xV]
 cases YP P u<;>cases vc H (ev fr y)<;>simp [hst,A9,Zu]
 grind
@[go_sem ↓] theorem To {u n l} :Zw P ⟨d,.buildSlice u n (List.toArray l),t,ps,af,g⟩ fr H k=A9 (WU P (.buildSlice u n (List.toArray l)) fr H) (Zu k ⟨⟩):=by rfl
@[go_sem ↓] theorem nL {u} :Zw P ⟨d,.makeMap u none,t,ps,af,g⟩ fr H k=k (.mp H.length) (H++ [.map []]):=by rfl
@[go_sem ↓] theorem pA {u x y ok} :Zw P ⟨d,.lookup u x y ok,t,ps,af,g⟩ fr H k=A9 (BQ P H u (ev fr x) (ev fr y) ok) (Zu k ⟨⟩):=by rfl
@[go_sem ↓] theorem xS {u x y z} :Zw P ⟨d,.mapUpdate u x y z,t,ps,af,g⟩ fr H k=A9 (DW P H u (ev fr x) (ev fr y) (ev fr z)) (Zu k ⟨⟩):=by rfl
@[go_sem ↓] theorem cU {u x y} :Zw P ⟨d,.makeSlice u x y,t,ps,af,g⟩ fr H k=A9 (WU P (.makeSlice u x y) fr H) (Zu k ⟨⟩):=by rfl
@[go_sem ↓] theorem oY {x y u u2} :Zw P ⟨d,.call ⟨.builtin .append,#[x,y],#[u,u2]⟩,t,ps,af,g⟩ fr H k=A9 (WO P H u u2 (ev fr x) (ev fr y)) (Zu k ⟨⟩):=by rfl
@[go_sem ↓] theorem xO {f azs ts} :Zw P ⟨d,.call ⟨.value f,List.toArray azs,ts⟩,t,ps,af,g⟩ fr H k=DV P (ev fr f) (azs.map (ev fr)) H (Zu k ⟨⟩):=Zm rfl rfl
@[go_sem ↓] theorem ZgZ {f fs cs azs} :DV P (.fn (.func f) fs cs) azs H k=ACalls P f (fs++azs++cs) H k:=Zm rfl rfl
@[go_sem ↓] theorem ZdF {f azs} :DV P (.p (.fn f)) azs H k=ACalls P f azs H k:=Zm rfl rfl
theorem Mb {f f' azs as'} (h:f=f') (h2:azs=as'):DV P f azs H k=DV P f' as' H k:=by rw [h,h2]
theorem It {f azs as' H'} (h2:azs=as') (h3:H=H'):ACalls P f azs H k=ACalls P f as' H' k:=by rw [h2,h3]
theorem Mc {x x' A B} (h:x=x'):UF x A B=UF x' A B:=by rw [h]
theorem Iz {x x' b A B} (h:x=x'):XI x b A B=XI x' b A B:=by rw [h]
@[go_sem ↓, go_sem] theorem wM {A:Prop} {t B'} :UF (.p (.bool true)) (Zu A t) B'=A:=by simp [UF,Zu]
@[go_sem ↓, go_sem] theorem uF {B:Prop} {t B'} :UF (.p (.bool false)) B' (Zu B t)=B:=by simp [UF,Zu]
@[go_sem ↓, go_sem] theorem ZdP {A:Prop} {t B} :XI (.p (.bool true)) true (Zu A t) B=A:=by simp [XI,Zu]
@[go_sem ↓, go_sem] theorem ZdO {B:Prop} {t A} :XI (.p (.bool true)) false A (Zu B t)=B:=by simp [XI,Zu]
@[go_sem ↓, go_sem] theorem ZdN {B:Prop} {t A} :XI (.p (.bool false)) true A (Zu B t)=B:=by simp [XI,Zu]
@[go_sem ↓, go_sem] theorem ZdM {A:Prop} {t B} :XI (.p (.bool false)) false (Zu A t) B=A:=by simp [XI,Zu]
@[go_sem ↓, go_sem] theorem uH {b} {B:Prop} {t A} :XI (.tup []) b A (Zu B t)=B:=by rfl
theorem Qu {c:Bool} {A B:Prop} {t t'} (h1:c=true->A) (h2:c=false->B):UF (.p (.bool c)) (Zu A t) (Zu B t'):=⟨h1,h2⟩
theorem V2 {c:Bool} {A B:Prop} {t t'} (h1:c=true->A) (h2:c=false->B):XI (.p (.bool c)) true (Zu A t) (Zu B t'):=⟨h1,fun h=>h2 (by simpa using h)⟩
theorem U6 {c:Bool} {A B:Prop} {t t'} (h1:c=true->B) (h2:c=false->A):XI (.p (.bool c)) false (Zu A t) (Zu B t'):=⟨h2,fun h=>h1 (by simpa using h)⟩
theorem Zd {P Q:Prop} (h:Q) (e:Q->P:=by intro h;simp (disch:=omega) only [go_sem,seval];exact h):P:=e h
class Dc (c:Bool) (p q:outParam Prop):Prop where
 t:c=true->p
 f:c=false->q
instance dcD {p : Prop} [Decidable p] : Dc (decide p) p (¬p) := ⟨Cu, of_decide_eq_false⟩
instance (priority := low) dcB {c : Bool} : Dc c (c = true) (c = false) := ⟨id, id⟩
theorem cD {c:Bool} {A B p q:Prop} {t t'} [d:Dc c p q] (h1:p->A) (h2:q->B):UF (.p (.bool c)) (Zu A t) (Zu B t'):=Qu (fun h=>h1 (d.t h)) (fun h=>h2 (d.f h))
theorem gT {c:Bool} {A B p q:Prop} {t t'} [d:Dc c p q] (h1:p->A) (h2:q->B):XI (.p (.bool c)) true (Zu A t) (Zu B t'):=V2 (fun h=>h1 (d.t h)) (fun h=>h2 (d.f h))
theorem gF {c:Bool} {A B p q:Prop} {t t'} [d:Dc c p q] (h1:p->B) (h2:q->A):XI (.p (.bool c)) false (Zu A t) (Zu B t'):=U6 (fun h=>h1 (d.t h)) (fun h=>h2 (d.f h))
@[go_sem] theorem ZlW {p:Prop} [Decidable p]:(!decide p)=decide (¬p):=Zb
end ops
attribute [congr] OM Mo Mb It Mc Iz
section vals
variable {P : Program} {H : List Obj} {k : IntKind} {t u : TypeId}
@[go_sem] theorem ZgO {a b} :Yd P .add t (.p (.int k a)) (.p (.int k b))=some (.int k (k.wrap (a+b))):=by simp [Yd,QX]
@[go_sem] theorem ZgY {a b} :Yd P .sub t (.p (.int k a)) (.p (.int k b))=some (.int k (k.wrap (a-b))):=by simp [Yd,QX]
@[go_sem] theorem dJ {a b} :Yd P .mul t (.p (.int k a)) (.p (.int k b))=some (.int k (k.wrap (a*b))):=by simp [Yd,QX]
@[go_sem] theorem dL {a b} (h:b≠0):Yd P .quo t (.p (.int k a)) (.p (.int k b))=some (.int k (k.wrap (a.tdiv b))):=by simp [Yd,QX,h]
@[go_sem] theorem ZgW {a b} (h:b≠0):Yd P .rem t (.p (.int k a)) (.p (.int k b))=some (.int k (a.tmod b)):=by simp [Yd,QX,h]
@[go_sem] theorem dI {a b} :Yd P .and t (.p (.int k a)) (.p (.int k b))=some (.int k (k.wrap ((BitVec.ofInt k.bits a&&&BitVec.ofInt k.bits b).toNat:Int))):=by simp [Yd,QX]
@[go_sem] theorem Rp {a b} :Yd P .or t (.p (.int k a)) (.p (.int k b))=some (.int k (k.wrap ((BitVec.ofInt k.bits a|||BitVec.ofInt k.bits b).toNat:Int))):=by simp [Yd,QX]
@[go_sem] theorem uD {a b} :Yd P .andNot t (.p (.int k a)) (.p (.int k b))=some (.int k (k.wrap ((BitVec.ofInt k.bits a&&& ~~~(BitVec.ofInt k.bits b)).toNat:Int))):=by simp [Yd,QX]
@[go_sem] theorem ZgQ {a b} :Yd P .eql t (.p (.int k a)) (.p (.int k b))=some (.bool (decide (a=b))):=by simp [Yd,QX]
@[go_sem] theorem ZgV {a b} :Yd P .neq t (.p (.int k a)) (.p (.int k b))=some (.bool (decide (¬a=b))):=by simp [Yd,QX]
@[go_sem] theorem ZgU {a b} :Yd P .lss t (.p (.int k a)) (.p (.int k b))=some (.bool (decide (a<b))):=by simp [Yd,QX]
@[go_sem] theorem ZgT {a b} :Yd P .leq t (.p (.int k a)) (.p (.int k b))=some (.bool (decide (a<=b))):=by simp [Yd,QX]
@[go_sem] theorem ZgS {a b} :Yd P .gtr t (.p (.int k a)) (.p (.int k b))=some (.bool (decide (b<a))):=by simp [Yd,QX]
@[go_sem] theorem ZgR {a b} :Yd P .geq t (.p (.int k a)) (.p (.int k b))=some (.bool (decide (b<=a))):=by simp [Yd,QX]
@[go_sem] theorem dM {a b k'} (h:0<=b):Yd P .shl t (.p (.int k a)) (.p (.int k' b))=some (.int k (k.wrap (a*2^(min b.toNat k.bits)))):=by grind [Yd,QX]
@[go_sem] theorem dN {a b k'} (h:0<=b):Yd P .shr t (.p (.int k a)) (.p (.int k' b))=some (.int k (a.fdiv (2^(min b.toNat k.bits)))):=by grind [Yd,QX]
@[go_sem] theorem ZgX {op a b} :Yd P op t (.p (.str a)) (.p (.str b))=LP op a b:=Zm rfl rfl
@[go_sem] theorem ZjQ {a b} :LP .eql a b=some (.bool (decide (a=b))):=Zm rfl rfl
@[go_sem] theorem ZjR {a b} :LP .neq a b=some (.bool (decide (¬a=b))):=by simp [LP]
@[go_sem] theorem mC {a b} (h:a.length+b.length<=9223372036854775807):LP .add a b=some (.str (a++b)):=by simp [LP,h]
def Zhn (op:BinOp) (u:Option TypeDesc) (a b:Bool):Option PV:=match op,u with
  | .eql,some .bool=>some (.bool (a==b))
  | .neq,some .bool=>some (.bool (!(a==b)))
  | _,_=>none
end vals
attribute [irreducible] Bv A9 hst bst
end Go.AM
namespace Go.AM
open Go.RowKit
section vals
variable {P : Program} {H : List Obj} {k : IntKind} {t u : TypeId}
@[go_sem] theorem ZdA {op a b} :Yd P op t (.p (.bool a)) (.p (.bool b))=Zhn op (P.underlying t) a b:=Zm rfl rfl
@[go_sem] theorem Zho {a b} :Zhn .neq (some .bool) a b=some (.bool (!(a==b))):=Zm rfl rfl
def yY (g:Bool) (op:BinOp) (r:Option Bool):Option PV:=if g then none else match op with
 | .eql=>r.map .bool
 | .neq=>r.map fun r=> .bool (!r)
 | _=>none
@[go_sem] theorem ZgP {op a b} :Yd P op t (.p (.agg a)) (.p (.agg b))=yY (P.eqGuardType P.depth t) op (Vi P 9 t (.agg a) (.agg b)):=Zm rfl rfl
@[go_sem] theorem ZhN {b} :yY false .eql (some b)=some (.bool b):=Zm rfl rfl
@[go_sem] theorem ZhO {b} :yY false .neq (some b)=some (.bool (!b)):=Zm rfl rfl
def GQ (P:Program) (d:Nat) (t:TypeId) (D:Option TypeDesc) (x y:PV):Option Bool:=match D,x,y with
  | some .bool,.bool a,.bool b=>some (a==b)
  | some (.int _),.int k a,.int k' b=>if k=k' then some (decide (a=b)) else none
  | some .string,.str a,.str b=>some (decide (a=b))
  | some (.struct fs),.agg a,.agg b=>if P.stoodInHeld t then none else BK (Vi P d) P fs.toList a b
  | some (.array n e),.agg a,.agg b=>match YP P e with | some m=>Tb (Vi P d e) P e m n 0 a b | none=>none
  | _,_,_=>none
@[go_sem] theorem ZdJ {d x y} :Vi P (d+1) t x y=GQ P d t (P.underlying t) x y:=Zm rfl rfl
@[go_sem] theorem ZdI {d a b} :GQ P d t (some .bool) (.bool a) (.bool b)=some (a==b):=Zm rfl rfl
@[go_sem] theorem Zg1 {d k0 a b} :GQ P d t (some (.int k0)) (.int k a) (.int k b)=some (decide (a=b)):=by simp [GQ]
theorem Qv {d fs a b} (h:P.stoodInHeld t=false):GQ P d t (some (.struct fs)) (.agg a) (.agg b)=BK (Vi P d) P fs.toList a b:=by simp [GQ,h]
def Ek (x y:Option Bool):Option Bool:=x.bind fun p=>y.map fun q=>p&&q
@[go_sem] theorem ZeR {p q} :Ek (some p) (some q)=some (p&&q):=Zm rfl rfl
def cW (f:PV->PV->Option Bool) (x y:Option PV):Option Bool:=x.bind fun x=>y.bind fun y=>f x y
@[go_sem] theorem ZhG {f x y} :cW f (some x) (some y)=f x y:=Zm rfl rfl
@[go_sem] theorem BL {f a b} :BK f P [] a b=some true:=Zm rfl rfl
@[go_sem] theorem Ac {f fi r a b} : BK f P (fi :: r) a b = if fi.name = "_" then BK f P r a b else Ek (cW (f fi.type) (apart P fi.type a fi.offset) (apart P fi.type b fi.offset)) (BK f P r a b) := by
 simp only [BK]
 split
 ·rfl
 ·cases apart P fi.type a fi.offset<;>cases apart P fi.type b fi.offset<;>simp [cW,Ek]
  rename_i x y
  cases f fi.type x y<;>cases BK f P r a b<;>rfl
def Zhc (g:Option Bool) (s:Option Nat) (cs:List PV) (off:Nat):Option PV:=match g,s with
 | some true,some n=>if off+n<=cs.length then some (.agg ((cs.drop off).take n)) else none
 | some false,_=>cs[off]?
 | _,_=>none
@[go_sem] theorem Zhb {cs off} :apart P t cs off=Zhc (XH P t) (YP P t) cs off:=Zm rfl rfl
@[go_sem] theorem Zhd {s cs off} :Zhc (some false) s cs off=cs[off]? :=Zm rfl rfl
def OJ (g:Option Bool) (s:Option Nat) (H:List Obj) (x:V):Option V:=match g,s with
 | some true,some n=>(Uq H x n).map mkA
 | some false,_=>match Uq H x 1 with
  | some (c::_)=>some c
  | _=>none
 | _,_=>none
def hdO (x:Option (List V)):Option V:=match x with | some (c::_)=>some c | _=>none
@[go_sem] theorem ZhR {c l} :hdO (some (c::l))=some c:=Zm rfl rfl
@[go_sem] theorem Zg6 {x} :Jb P H t x=OJ (XH P t) (YP P t) H x:=Zm rfl rfl
@[go_sem] theorem wW {s x} :OJ (some false) s H x=hdO (Uq H x 1):=by rfl
@[go_sem] theorem wV {n x} :OJ (some true) (some n) H x=(Uq H x n).map mkA:=Zm rfl rfl
@[go_sem] theorem ZdH {x j n} :Uq H (.lp x j) n=if j+n<=x.cells.length then some (((x.cells.drop j).take n).map .p) else none:=Zm rfl rfl
def kY (ob:Obj) (off n:Nat):Option (List V):=match ob with | .cells cs=>if off+n<=cs.length then some ((cs.drop off).take n) else none | _=>none
@[go_sem] theorem wL {o off n} :Uq H (.ptr o off) n=kY (oat H o) off n:=Zm rfl rfl
@[go_sem] theorem rZ {cs off n} :kY (.cells cs) off n=if off+n<=cs.length then some ((cs.drop off).take n) else none:=Zm rfl rfl
def gG (ob:Obj) (i j tot n:Nat):Option (List V):=match ob with
 | .elems _ xs=>if xs.length=tot/\i<xs.length/\j+n<=(Kv xs i).cells.length then some ((((Kv xs i).cells.drop j).take n).map .p) else none
 | _=>none
@[go_sem] theorem ZdG {o i j tot n} :Uq H (.ep o i j tot) n=gG (oat H o) i j tot n:=Zm rfl rfl
@[go_sem] theorem qC {S xs i j tot n} :gG (.elems S xs) i j tot n=if xs.length=tot/\i<xs.length/\j+n<=(Kv xs i).cells.length then some ((((Kv xs i).cells.drop j).take n).map .p) else none:=Zm rfl rfl
@[go_sem] theorem Zep {cs} :(PV.agg cs).cells=cs:=Zm rfl rfl
@[go_sem] theorem Zer {n} :(PV.int k n).cells= [.int k n]:=Zm rfl rfl
@[go_sem] theorem yD {b} :(PV.bool b).cells= [.bool b]:=Zm rfl rfl
@[go_sem] theorem Zes {s} :(PV.str s).cells= [.str s]:=Zm rfl rfl
@[go_sem] theorem yE {c xs} :(PV.list c xs).cells= [.list c xs]:=Zm rfl rfl
@[go_sem] theorem ZlY {n} :(PV.int k n).one=true:=Zm rfl rfl
@[go_sem] theorem ZjA {b} :(PV.bool b).one=true:=Zm rfl rfl
@[go_sem] theorem ZlZ {s} :(PV.str s).one=true:=Zm rfl rfl
@[go_sem] theorem ZjB {c xs} :(PV.list c xs).one=true:=Zm rfl rfl
@[go_sem] theorem ZnD {cs} :mkA cs=match QO cs with | some ps=> .p (.agg ps) | none=> .agg cs:=Zm rfl rfl
@[go_sem] theorem Zg5 : QO []=some []:=Zm rfl rfl
@[go_sem] theorem ZdV {x r} :QO (.p x::r)=(QO r).map (x:: ·):=by rfl
def Eo (n:Option Nat) (a:Bool) (x:V):Option V:=match n with | some n=>if a then some (BR n x) else none | none=>none
@[go_sem] theorem ZdK {s f x} :JD P H s f x=Eo (ZQ P s f) (Wc H x) x:=Zm rfl rfl
@[go_sem] theorem nV {n x} :Eo (some n) true x=some (BR n x):=Zm rfl rfl
@[go_sem] theorem Zg9 {n x j} :BR n (.lp x j)= .lp x (j+n):=Zm rfl rfl
@[go_sem] theorem Zd0 {n o off} :BR n (.ptr o off)= .ptr o (off+n):=Zm rfl rfl
@[go_sem] theorem Zg8 {n o i j tot} :BR n (.ep o i j tot)= .ep o i (j+n) tot:=Zm rfl rfl
def R9 (ob:Obj):Bool:=match ob with | .cells _=>true | _=>false
@[go_sem] theorem nO {cs} :R9 (.cells cs)=true:=Zm rfl rfl
def Sa (ob:Obj) (tot:Nat):Bool:=match ob with | .elems _ xs=>decide (xs.length=tot) | _=>false
@[go_sem] theorem nP {S xs tot} :Sa (.elems S xs) tot=decide (xs.length=tot):=Zm rfl rfl
def Sd (ob:Obj) (tot:Nat):Bool:=match ob with | .elems _ xs=>decide (xs.length=tot) | .cells _=>true | _=>false
@[go_sem] theorem vM {S xs tot} :Sd (.elems S xs) tot=decide (xs.length=tot):=Zm rfl rfl
@[go_sem] theorem vL {cs tot} :Sd (.cells cs) tot=true:=Zm rfl rfl
@[go_sem] theorem Zg4 {x j} :Wc H (.lp x j)=true:=Zm rfl rfl
@[go_sem] theorem wT {o off} :Wc H (.ptr o off)=R9 (oat H o):=Zm rfl rfl
@[go_sem] theorem Zg3 {o i j tot} :Wc H (.ep o i j tot)=Sa (oat H o) tot:=Zm rfl rfl
def UM (e:Option (Option Nat×Nat)) (H:List Obj) (x i:V):Option V:=match e,i with
 | some (none,S),.p (.int _ n)=>match x with
  | .p (.list _ xs)=>if 0<=n/\n<xs.length then (if (Kv xs n.toNat).cells.length=S then some (.lp (Kv xs n.toNat) 0) else none) else none
  | .sl o off len tot=>match oat H o with
   | .elems S' xs=>if xs.length=tot/\S'=S then (if 0<=n/\n<len then some (.ep o (off+n.toNat) 0 tot) else none) else none
   | .cells _=>if S=1/\off=0/\len=tot/\0<=n/\n<len then some (.ptr o n.toNat) else none
   | _=>none
  | _=>none
 | some (some k,S),.p (.int _ n)=>if 0<=n/\n<k then (if Wc H x then some (BR (n.toNat*S) x) else none) else none
 | _,_=>none
@[go_sem] theorem ZdR {x i} :QN P H t x i=UM (Y6 P t) H x i:=Zm rfl rfl
theorem IA {S c xs n} (h0:0<=n) (h1:n<(List.length xs:Int)):UM (some (none,S)) H (.p (.list c xs)) (.p (.int k n))=if (Kv xs n.toNat).cells.length=S then some (.lp (Kv xs n.toNat) 0) else none:=by
 simp_all [UM]
def nth {α:Type} [Inhabited α] (l:List α) (i:Nat):α:=l.getD i default
theorem Vm {α:Type} [Inhabited α] {f:α->PV} {l:List α} {i:Nat} (h:i<l.length):Kv (l.map f) i=f (nth l i):=by
 simp [Kv,nth,h]
theorem Zj {α:Type} [Inhabited α] {l:List α} {i:Nat} (h:i<l.length):nth l i=l[i]:=by simp [nth,h]
@[go_sem] theorem uJ {α:Type} [Inhabited α] {f:α->PV} {l:List α} {S c n} (h0:0<=n) (h1:n<(l.length:Int)) :
  UM (some (none,S)) H (.p (.list c (l.map f))) (.p (.int k n))=if (f (nth l n.toNat)).cells.length=S then some (.lp (f (nth l n.toNat)) 0) else none:=by
 grind [IA,Vm]
def Gu (ob:Obj) (S o off len tot:Nat) (n:Int):Option V:=match ob with
 | .elems S' xs=>if xs.length=tot/\S'=S then (if 0<=n/\n<len then some (.ep o (off+n.toNat) 0 tot) else none) else none
 | .cells _=>if S=1/\off=0/\len=tot/\0<=n/\n<len then some (.ptr o n.toNat) else none
 | _=>none
@[go_sem] theorem wP {S o off len tot n} :UM (some (none,S)) H (.sl o off len tot) (.p (.int k n))=Gu (oat H o) S o off len tot n:=Zm rfl rfl
@[go_sem] theorem ZeY {S xs o off} {len tot:Nat} {n:Int} (h0:0<=n) (h1:n<(len:Int)) (ht:xs.length=tot):Gu (.elems S xs) S o off len tot n=some (.ep o (off+n.toNat) 0 tot):=by
 grind [Gu]
@[go_sem] theorem tA {cs o} {len:Nat} {n:Int} (h0:0<=n) (h1:n<(len:Int)):Gu (.cells cs) 1 o 0 len len n=some (.ptr o n.toNat):=by
 grind [Gu]
@[go_sem] theorem uI {n} {m S:Nat} {x} (h0:0<=n) (h1:n<(m:Int)):UM (some (some m,S)) H x (.p (.int k n))=Eo (some (n.toNat*S)) (Wc H x) x:=by
 simp_all [UM,Eo]
def Rq (H:List Obj) (D:Option TypeDesc) (x:V):Option PV:=match D,x with
 | some (.slice _),.p (.list _ xs)=>some (.int .i64 xs.length)
 | some (.slice _),.sl o _ len tot=>match oat H o with
  | .elems _ xs=>if xs.length=tot then some (.int .i64 len) else none
  | _=>none
 | some .string,.p (.str s)=>some (.int .i64 s.length)
 | some (.array n _),_=>some (.int .i64 n)
 | _,_=>none
@[go_sem] theorem Zk0 {x} :dV P H t x=Rq H (P.underlying t) x:=Zm rfl rfl
@[go_sem] theorem wQ {e c xs} :Rq H (some (.slice e)) (.p (.list c xs))=some (.int .i64 (List.length xs)):=Zm rfl rfl
def ZjU (ob:Obj) (len tot:Nat):Option PV:=match ob with | .elems _ xs=>if xs.length=tot then some (.int .i64 len) else none | _=>none
@[go_sem] theorem Zg2 {e o off len tot} :Rq H (some (.slice e)) (.sl o off len tot)=ZjU (oat H o) len tot:=Zm rfl rfl
@[go_sem] theorem Zc5 {S xs len tot} :ZjU (.elems S xs) len tot=if xs.length=tot then some (.int .i64 len) else none:=Zm rfl rfl
@[go_sem] theorem ZdU {s} :Rq H (some .string) (.p (.str s))=some (.int .i64 (List.length s)):=Zm rfl rfl
@[go_sem] theorem Zk8 {b} :aun .not (.p (.bool b))=some (.bool (!b)):=Zm rfl rfl
@[go_sem] theorem Zk7 {n} :aun .neg (.p (.int k n))=some (.int k (k.wrap (0-n))):=Zm rfl rfl
def dP (D E:Option TypeDesc) (x:V):Option PV:=match D,E,x with
 | some _,some (.int k),.p (.int _ n)=>some (.int k (k.wrap n))
 | some (.int _),some .string,.p (.int _ n)=>if 0<=n/\n<128 then some (.str [UInt8.ofNat n.toNat]) else none
 | some .string,some .string,.p (.str b)=>some (.str b)
 | _,_,_=>none
@[go_sem] theorem Zg0 {s x} :Md P s t x=dP (P.underlying s) (P.underlying t) x:=Zm rfl rfl
@[go_sem] theorem wN {D k' n} :dP (some D) (some (.int k)) (.p (.int k' n))=some (.int k (k.wrap n)):=by rfl
def Iy (E:Option TypeDesc) (H:List Obj) (x:V):Option PV:=match E,x with
  | some (.int .u8),.p (.list _ xs)=>(YV xs).map .str
  | some (.int .u8),.sl o off len tot=>match oat H o with
   | .elems _ xs=>if xs.length=tot/\off+len<=tot then (YV ((xs.take (off+len)).drop off)).map .str else none
   | _=>none
  | _,_=>none
def Ix (P:Program) (H:List Obj) (D E:Option TypeDesc) (x:V):Option PV:=match D,E with
 | some (.slice e),some .string=>Iy (P.underlying e) H x
 | _,_=>none
@[go_sem] theorem ZdE {s x} :De P H s t x=Ix P H (P.underlying s) (P.underlying t) x:=Zm rfl rfl
@[go_sem] theorem uE {E x} :Ix P H (some (.int k)) E x=none:=Zm rfl rfl
@[go_sem] theorem nG {e x} :Ix P H (some (.slice e)) (some .string) x=Iy (P.underlying e) H x:=Zm rfl rfl
def mD (ob:Obj) (off len tot:Nat):Option PV:=match ob with | .elems _ xs=>if xs.length=tot/\off+len<=tot then (YV ((xs.take (off+len)).drop off)).map .str else none | _=>none
@[go_sem] theorem wK {o off len tot} :Iy (some (.int .u8)) H (.sl o off len tot)=mD (oat H o) off len tot:=Zm rfl rfl
@[go_sem] theorem sV {S xs off len tot} :mD (.elems S xs) off len tot=if xs.length=tot/\off+len<=tot then (YV ((xs.take (off+len)).drop off)).map .str else none:=Zm rfl rfl
@[go_sem] theorem vA : YV []=some []:=Zm rfl rfl
@[go_sem] theorem pK {n r} :YV (.int .u8 n::r)=(YV r).map (UInt8.ofNat n.toNat:: ·):=by rfl
@[go_sem] theorem Zmt {a b:Int} (h:0<=a):a.tdiv b=a / b:=Int.tdiv_eq_ediv_of_nonneg h
@[go_sem] theorem ZmF {a b:Int} (h:0<=a):a.tmod b=a%b:=Int.tmod_eq_emod_of_nonneg h
@[go_sem] theorem Zpc {cs} :vc H (.p (.agg cs))=if cs.all (·.one)=true then some (cs.map .p) else none:=by rfl
@[go_sem] theorem ZmG {cs} :vc H (.agg cs)=if cs.all (V.one H)=true then some cs else none:=by rfl
@[go_sem] theorem Zpd {n} :vc H (.p (.int k n))=some [.p (.int k n)]:=Zm rfl rfl
@[go_sem] theorem ZmH {n} :vc H (.p (.bool n))=some [.p (.bool n)]:=Zm rfl rfl
@[go_sem] theorem Zpe {n} :vc H (.p (.str n))=some [.p (.str n)]:=Zm rfl rfl
@[go_sem] theorem ZmI {c xs} :vc H (.p (.list c xs))=some [.p (.list c xs)]:=Zm rfl rfl
@[go_sem] theorem Zqo {o off len tot} :vc H (.sl o off len tot)=if Sd (oat H o) tot=true then some [.sl o off len tot] else none:=Zm rfl rfl
@[go_sem] theorem Zpf {x} :V.one H (.p x)=x.one:=Zm rfl rfl
@[go_sem] theorem ZmL {o off len tot} :V.one H (.sl o off len tot)=Sd (oat H o) tot:=Zm rfl rfl
@[go_sem] theorem ZmK {o} :V.one H (.mp o)=Sb (oat H o):=Zm rfl rfl
@[go_sem] theorem Zqn {o} :vc H (.mp o)=if Sb (oat H o)=true then some [.mp o] else none:=Zm rfl rfl
@[go_sem] theorem ZeG {es} :Sb (.map es)=true:=Zm rfl rfl
@[go_sem] theorem LU {α:Type} {n} {cs:List α} :Q8 ([]:List α) n cs= []:=by rfl
@[go_sem] theorem ZjW {α:Type} {x c:α} {l cs} :Q8 (x::l) 0 (c::cs)=c::Q8 l 0 cs:=by simp [Q8]
@[go_sem] theorem ZeZ {α:Type} {x:α} {l} :Q8 (x::l) 0 []=x::l:=by simp [Q8]
@[go_sem] theorem ZjV {α:Type} {x:α} {l cs n} :Q8 (x::l) (n+1) cs=x::Q8 l n cs:=by simp [Q8]
def lK (H:List Obj) (o:Nat) (ob:Obj) (off n:Nat) (cs:List V):Option (List Obj):=match ob with
 | .cells old=>if off+n<=old.length then some (F2 H o (.cells (Q8 old off cs))) else none
 | _=>none
@[go_sem] theorem xU {n o off cs} :Bh H n (.ptr o off) cs=if cs.length=n then lK H o (oat H o) off n cs else none:=Zm rfl rfl
@[go_sem] theorem sJ {o old off n cs} :lK H o (.cells old) off n cs=if off+n<=old.length then some (F2 H o (.cells (Q8 old off cs))) else none:=Zm rfl rfl
def O8 (H:List Obj) (o:Nat) (ob:Obj) (i j tot n:Nat) (ps:Option (List PV)):Option (List Obj):=match ob,ps with
 | .elems S xs,some ps=>if xs.length=tot/\i<xs.length/\j+n<=(Kv xs i).cells.length/\ps.all (·.one)=true/\(Kv xs i).cells.all (·.one)=true then
   some (F2 H o (.elems S (xs.set i (jS (Kv xs i) (Q8 (Kv xs i).cells j ps))))) else none
 | _,_=>none
@[go_sem] theorem Zeg {n o i j tot cs} :Bh H n (.ep o i j tot) cs=if cs.length=n then O8 H o (oat H o) i j tot n (QO cs) else none:=Zm rfl rfl
@[go_sem] theorem yT {α:Type} [Inhabited α] {f:α->PV} {l:List α} {o S i j tot n ps} (ht:l.length=tot) (hi:i<l.length):O8 H o (.elems S (l.map f)) i j tot n (some ps) =
  if j+n<=(f (nth l i)).cells.length/\ps.all (·.one)=true/\(f (nth l i)).cells.all (·.one)=true then
   some (F2 H o (.elems S ((l.map f).set i (jS (f (nth l i)) (Q8 (f (nth l i)).cells j ps))))) else none:=by
 simp_all [O8,Vm]
@[go_sem] theorem ZlU {a cs} :jS (.agg a) cs= .agg cs:=Zm rfl rfl
@[go_sem] theorem ZlV {n c l} :jS (.int k n) (c::l)=c:=Zm rfl rfl
@[go_sem] theorem Zjn {n c l} :jS (.bool n) (c::l)=c:=Zm rfl rfl
@[go_sem] theorem ZdD {l} :E5 P H t l=match Xc P t,BI P t with
 | some zs,some pl=>(Kz H pl (zs.map .p) l).map mkA
 | _,_=>none:=Zm rfl rfl
@[go_sem] theorem ZdL {pl cs} :Kz H pl cs []=some cs:=by simp [Kz]
def dR (H:List Obj) (pl:Nat->Option (Nat×Nat)) (cs:List V) (r:List (Nat×V)) (q:Option (Nat×Nat)) (vs:Option (List V)):Option (List V):=match q,vs with
 | some (off,sz),some vs=>if vs.length=sz/\off+sz<=cs.length then Kz H pl (Q8 cs off vs) r else none
 | _,_=>none
@[go_sem] theorem wO {pl cs i v r} :Kz H pl cs ((i,v)::r)=dR H pl cs r (pl i) (vc H v):=Zm rfl rfl
@[go_sem] theorem uG {pl cs off sz vs r} :dR H pl cs r (some (off,sz)) (some vs)=if vs.length=sz/\off+sz<=cs.length then Kz H pl (Q8 cs off vs) r else none:=Zm rfl rfl
@[go_sem] theorem ZnJ {l i} :BH l i=l[i]? :=Zm rfl rfl
@[go_sem] theorem ZnI {n i} :plA n i=some (i*n,n):=Zm rfl rfl
end vals
end Go.AM
namespace Go.AM
open Go.RowKit
section
variable {P : Program} {H : List Obj} {k : IntKind} {t u : TypeId} {fr : List V}
def dW (S:Option Nat) (H:List Obj) (n:Nat) (l:List (Nat×V)):Option (V×List Obj):=match S with
 | some S=>if n=l.length/\n*S<=16777216/\0<S then (Jm H S 0 l).map fun xs=>(.sl H.length 0 n n,H++ [.elems S xs]) else none
 | none=>none
@[go_sem] theorem Zg7 {n l} :WU P (.buildSlice t n (List.toArray l)) fr H=dW (UT P t) H n (l.map fun x=>(x.1,ev fr x.2)):=by
 grind [WU,UT,dW,OI]
@[go_sem] theorem wR {S n l} :dW (some S) H n l=if n=l.length/\n*S<=16777216/\0<S then (Jm H S 0 l).map fun xs=>(.sl H.length 0 n n,H++ [.elems S xs]) else none:=Zm rfl rfl
@[go_sem] theorem Zjj {S n} :Jm H S n []=some []:=by simp [Jm]
@[go_sem] theorem ZeM {S n i x r} :Jm H S n ((i,.p x)::r)=if i=n then if x.cells.length=S/\x.cells.all (·.one)=true then (Jm H S (n+1) r).map (x:: ·) else none else none:=by rfl
@[go_sem] theorem ZlK {S n i f r} :Jm H S n ((i,.fn (.func f) [] [])::r)=if i=n then if 1=S then (Jm H S (n+1) r).map (.fn f:: ·) else none else none:=by simp [Jm,pvo,PV.cells,PV.one]
def Qs (P:Program) (t:TypeId):Option (Nat×Nat):=match P.underlying t with
 | some (.slice e)=>match YP P e,zval P e,(P.info? e).map (·.bytes) with
  | some S,some z,some by'=>if 0<S/\z.cells.length=S/\z.cells.all (·.one)=true/\by'≠0 then some (S,by') else none
  | _,_,_=>none
 | _=>none
theorem Fc {S by'} (h:Qs P t=some (S,by')): ∃e z,P.underlying t=some (.slice e)/\YP P e=some S/\zval P e=some z/\(P.info? e).map (·.bytes)=some by'/\0<S/\z.cells.length=S/\z.cells.all (·.one)=true/\by'≠0:=by
 unfold Qs at h
 grind
def YB (D:Option TypeDesc) (H:List Obj) (y:V):Option (List PV):=match D,y with
 | some (.slice _),.p (.list _ ys)=>some ys
 | some (.slice _),.sl o off len tot=>match oat H o with
  | .elems _ xs=>if xs.length=tot/\off+len<=tot then some ((xs.take (off+len)).drop off) else none
  | _=>none
 | some .string,.p (.str s)=>some (s.map fun b=> .int .u8 b.toNat)
 | _,_=>none
def mO (ob:Obj) (off len tot:Nat):Option (List PV):=match ob with | .elems _ xs=>if xs.length=tot/\off+len<=tot then some ((xs.take (off+len)).drop off) else none | _=>none
@[go_sem] theorem xI {e c ys} :YB (some (.slice e)) H (.p (.list c ys))=some ys:=Zm rfl rfl
@[go_sem] theorem Zhi {e o off len tot} :YB (some (.slice e)) H (.sl o off len tot)=mO (oat H o) off len tot:=Zm rfl rfl
theorem N9 {S xs n} (h:List.length xs=n):mO (.elems S xs) 0 n n=some xs:=by grind [mO]
def Mi (H:List Obj) (F:Option (Nat×Nat)) (ys:Option (List PV)):Option (V×List Obj):=match F,ys with
 | some (S,by'),some ys=>if KT S ys=true/\ys.length*by'<=140737488355328/\ys.length<=140737488355328 then some (.sl H.length 0 ys.length ys.length,H++ [.elems S ys]) else none
 | _,_=>none
def V5 (H:List Obj) (F:Option (Nat×Nat)) (ob:Obj) (o n:Nat) (ys:Option (List PV)):Option (V×List Obj):=match F,ob,ys with
 | some (S,by'),.elems S' xs,some ys=>if S'=S/\xs.length=n/\KT S ys=true/\(n+ys.length)*by'<=140737488355328/\n+ys.length<=140737488355328 then
   some (.sl o 0 (n+ys.length) (n+ys.length),F2 H o (.elems S (xs++ys))) else none
 | _,_,_=>none
theorem Iv {z x y ys e S by'} (h1:P.underlying t=some (.slice e)) (h2:YP P e=some S) (h3:zval P e=some z) (h4:(P.info? e).map (·.bytes)=some by') (h5:GR P H u y=some ys) (h6:0<S/\z.cells.length=S/\z.cells.all (·.one)=true/\by'≠0) :
  WO P H t u x y=if KT S ys=true then (match x with
    | .p (.list cl xs)=>if cl=true/\KT S xs=true/\(xs= []\/0<ys.length)/\(xs.length+ys.length)*by'<=140737488355328/\xs.length+ys.length<=140737488355328 then
      some (.sl H.length 0 (xs.length+ys.length) (xs.length+ys.length),H++ [.elems S (xs++ys)]) else none
    | .sl o off len tot=>match oat H o with
     | .elems S' xs=>if S'=S/\off=0/\len=tot/\xs.length=tot/\(tot+ys.length)*by'<=140737488355328/\tot+ys.length<=140737488355328 then
       some (.sl o 0 (tot+ys.length) (tot+ys.length),F2 H o (.elems S (xs++ys))) else none
     | _=>none
    | _=>none) else none:=by
 simp only [WO,h1,h2,h3,h4,h5]
 grind
theorem BJ {y F} (hF:Qs P t=some F):WO P H t u (.p (.list true [])) y=Mi H (some F) (YB (P.underlying u) H y):=by
 obtain ⟨S,by'⟩:=F;obtain ⟨e,z,h1,h2,h3,h4,h6⟩:=Fc hF;have e1:YB (P.underlying u) H y=GR P H u y:=Zm rfl rfl;rw [e1]
 cases h5:GR P H u y with
 | none=>grind [WO,Mi]
 | some ys =>
  grind [Iv,Mi,KT]
theorem Yb {y F o n} (hF:Qs P t=some F):WO P H t u (.sl o 0 n n) y=V5 H (some F) (oat H o) o n (YB (P.underlying u) H y):=by
 obtain ⟨S,by'⟩:=F;obtain ⟨e,z,h1,h2,h3,h4,h6⟩:=Fc hF;have e1:YB (P.underlying u) H y=GR P H u y:=Zm rfl rfl;rw [e1]
 cases h5:GR P H u y with
 | none =>
  grind [WO,V5]
 | some ys =>
  rw [Iv h1 h2 h3 h4 h5 h6];simp only [V5]
  grind
@[go_sem] theorem Zd5 {S b ys} :Mi H (some (S,b)) (some ys)=if KT S ys=true/\ys.length*b<=140737488355328/\ys.length<=140737488355328 then some (.sl H.length 0 ys.length ys.length,H++ [.elems S ys]) else none:=Zm rfl rfl
theorem He {S b xs ys o n} (hn:xs.length=n) (hb:(n+ys.length)*b<=140737488355328) (hb2:n+ys.length<=140737488355328):V5 H (some (S,b)) (.elems S xs) o n (some ys)=if KT S ys=true then some (.sl o 0 (n+ys.length) (n+ys.length),F2 H o (.elems S (xs++ys))) else none:=by
 simp_all [V5]
@[go_sem] theorem ZjY {α:Type} {S} {f:α->PV} {l:List α} :mO (.elems S (l.map f)) 0 l.length l.length=some (l.map f):=N9 Zb
@[go_sem] theorem ZjZ {S x} :mO (.elems S [x]) 0 1 1=some [x]:=N9 Zb
@[go_sem] theorem Zd7 {α:Type} {S b o x} {f:α->PV} {l:List α} (hb:(l.length+1)*b<=140737488355328) (hb2:l.length+1<=140737488355328):V5 H (some (S,b)) (.elems S (l.map f)) o l.length (some [x])=if KT S [x]=true then some (.sl o 0 (l.length+1) (l.length+1),F2 H o (.elems S (l.map f++ [x]))) else none :=
 He Zb Za Za
@[go_sem] theorem Zd8 {α β:Type} {S b o} {f:α->PV} {g:β->PV} {l:List α} {m:List β} (hb:(l.length+m.length)*b<=140737488355328) (hb2:l.length+m.length<=140737488355328):V5 H (some (S,b)) (.elems S (l.map f)) o l.length (some (m.map g))=if KT S (m.map g)=true then some (.sl o 0 (l.length+m.length) (l.length+m.length),F2 H o (.elems S (l.map f++m.map g))) else none:=by
 grind [He]
@[go_sem] theorem ZlX {S} :KT S []=true:=Zm rfl rfl
@[go_sem] theorem Zju {S x l} :KT S (x::l)=((x.cells.length==S)&&x.cells.all (·.one)&&KT S l):=by rfl
theorem QF {α:Type} {S} {f:α->PV} {l:List α} (h: ∀x,ZcC S (f x)=true):KT S (l.map f)=true:=by grind [KT]
def Sm (P:Program) (t:TypeId):Option (Nat×Nat×PV):=match P.underlying t with
  | some (.slice e)=>match YP P e,zval P e,(P.info? e).map (·.bytes) with
   | some S,some z,some by'=>if z.cells.all (·.one)=true/\z.cells.length=S/\0<S then some (S,by',z) else none
   | _,_,_=>none
  | _=>none
end
def Ws : Nat->List Nat->List V->List V
 | _,_,[]=> []
 | i,[],_::l=> .junk::Ws (i+1) [] l
 | i,k::ks,x::l=>if i=k then x::Ws (i+1) ks l else .junk::Ws (i+1) (k::ks) l
def Ky : List (Nat×V)->List V->List V
 | [],fr=>fr
 | (i,v)::r,fr=>Ky r (pt fr i v)
@[go_sem] theorem ZeH {i ks} :Ws i ks []= []:=by rfl
@[go_sem] theorem Zcr {i x l} :Ws i [] (x::l)= .junk::Ws (i+1) [] l:=by simp [Ws]
@[go_sem] theorem Zcq {i k ks x l} :Ws i (k::ks) (x::l)=if i=k then x::Ws (i+1) ks l else .junk::Ws (i+1) (k::ks) l:=by simp [Ws]
@[go_sem] theorem Zpq : ((0:Nat):Int)=0:=Zm rfl rfl
@[go_sem] theorem Zpr {n:Nat} :((n+1:Nat):Int)=(n:Int)+1:=Zm rfl rfl
@[go_sem] theorem Zoh {n:Nat} :((n:Int)).toNat=n:=Zm rfl rfl
@[go_sem] theorem ZjS {fr} :Ky [] fr=fr:=by simp [Ky]
@[go_sem] theorem ZeX {i v r fr} :Ky ((i,v)::r) fr=Ky r (pt fr i v):=by simp [Ky]
@[go_sem] theorem Zk5 {p q:Prop} [Decidable p] [Decidable q]:(decide p&&decide q)=decide (p/\q):=Zb
@[go_sem] theorem ZcG {p q:Prop} [Decidable p] [Decidable q]:(decide p||decide q)=decide (p\/q):=Zb
theorem Zl {P c fr H Q} {I:Type} (ks:List Nat) (sets:I->List (Nat×V)) (hs:I->List Obj) (R:I->Prop) (μ:I->Nat) (i0:I) (hR:R i0) (h0:Weak H.length fr H (Ky (sets i0) (Ws 0 ks fr)) (hs i0))
  (round: ∀i,R i->JH [] P c (Ky (sets i) (Ws 0 ks fr)) (hs i) (QJ (fun fr' H'=> ∃i',R i'/\μ i'<μ i/\Weak H.length fr' H' (Ky (sets i') (Ws 0 ks fr)) (hs i')) Q)):AWP P (.loop c) fr H Q :=
 Mp R (fun i=>Ky (sets i) (Ws 0 ks fr)) hs μ i0 hR h0 fun i hi=>Zh [] _ _ _ _ (round i hi)
theorem ZY {P c fr H Q} (cuts:List Nat) {I:Type} (ks:List Nat) (sets:I->List (Nat×V)) (hs:I->List Obj) (R:I->Prop) (μ:I->Nat) (i0:I) (hR:R i0) (h0:Weak H.length fr H (Ky (sets i0) (Ws 0 ks fr)) (hs i0))
  (round: ∀i,R i->JH cuts P c (Ky (sets i) (Ws 0 ks fr)) (hs i) (QJ (fun fr' H'=> ∃i',R i'/\μ i'<μ i/\Weak H.length fr' H' (Ky (sets i') (Ws 0 ks fr)) (hs i')) Q)):AWP P (.loop c) fr H Q :=
 Mp R (fun i=>Ky (sets i) (Ws 0 ks fr)) hs μ i0 hR h0 fun i hi=>Zh cuts _ _ _ _ (round i hi)
theorem ZJ {P x y fr H Q} {I:Type} (ks:List Nat) (sets:I->List (Nat×V)) (hs:I->List Obj) (R:I->Prop)
  (h:JH [] P x fr H (QJ (fun fr' H'=> ∃i,R i/\Weak H.length fr' H' (Ky (sets i) (Ws 0 ks fr)) (hs i)) Q)) (k: ∀i,R i->AWP P y (Ky (sets i) (Ws 0 ks fr)) (hs i) Q):AWP P (.seq x y) fr H Q :=
 fun F ι a w hr hf=>by
 refine wp_seq (wp_mono (Zh [] _ _ _ _ h F ι a w hr hf) ?_);rintro e a' w' ⟨fr',H',ι',q,g,f⟩
 cases e with
 | normal =>
  obtain ⟨i,hi,hw⟩:=q;obtain ⟨ι2,r2,f2,g2⟩:=hw F ι' a' w' g.rel f;refine wp_mono (k i hi F ι2 a' w' r2 f2) ?_;rintro e2 a2 w2 ⟨fr2,H2,ι3,q2,g3,f3⟩;exact ⟨fr2,H2,ι3,q2,(g2 H ι w (ZF _) g).trans g3,f3⟩
 | exit id=>exact ⟨fr',H',ι',q,g,f⟩
 | goto l=>exact ⟨fr',H',ι',q,g,f⟩
 | ret=>exact ⟨fr',H',ι',q,g,f⟩
 | panic ch=>exact ⟨fr',H',ι',q,g,f⟩
 | outgrown=>exact ⟨fr',H',ι',q,g,f⟩
theorem ZkL {H n x} :DU H n x x=(refB n x=true\/x= .junk\/ ∃y,cX H n x=some y/\x= .p y):=by
 simp only [DU,true_and,eq_iff_iff]
 grind
@[go_sem] theorem ZkJ {H n x} :DU H n x .junk=True:=by simp [DU]
@[go_sem] theorem Zpi {H n} {x y:PV} :DU H n (.p x) (.p y)=(y=x):=by simp [DU,refB,cX]
@[go_sem] theorem ZmQ {H n o off len tot o' off' len' tot'} :DU H n (.sl o off len tot) (.sl o' off' len' tot')=((o'=o/\off'=off/\len'=len/\tot'=tot)/\o<n):=by simp [DU,refB]
@[go_sem] theorem ZkK {H n o off o' off'} :DU H n (.ptr o off) (.ptr o' off')=((o'=o/\off'=off)/\o<n):=by simp [DU,refB]
theorem uC {H n o off len tot y} :DU H n (.sl o off len tot) (.p y)=(cX H n (.sl o off len tot)=some y):=by simp [DU]
@[go_sem] theorem ZmM {H n} :OD H n [] []=True:=by simp [OD]
@[go_sem] theorem ZkG {H n x l x' l'} :OD H n (x::l) (x'::l')=(DU H n x x'/\OD H n l l'):=by simp [OD]
@[go_sem] theorem ZmN {H n l} :Ox H n l []=True:=by simp [Ox]
@[go_sem] theorem ZkH {H n x l x' l'} :Ox H n (x::l) (x'::l')=(E3 H n x x'/\Ox H n l l'):=by simp [Ox]
@[go_sem] theorem Zga {H n cs cs'} :E3 H n (.cells cs) (.cells cs')=OD H n cs cs':=by simp [E3]
@[go_sem] theorem Zgb {H n S S' xs xs'} :E3 H n (.elems S xs) (.elems S' xs')=(S=S'/\xs=xs'):=by simp [E3]
@[go_sem] theorem ZmO {H n es es2} :E3 H n (.map es) (.map es2)=(es=es2):=by simp [E3]
@[go_sem] theorem Zph {H n o o2} :DU H n (.mp o) (.mp o2)=(o2=o/\o<n):=by simp [DU,refB,cX]
@[go_sem] theorem ZkI {H n} :E3 H n .dead .dead=True:=by simp [E3]
theorem Weak.mk {n0 fr H fr' H'} (h:n0<=H'.length/\H'.length<=H.length/\OD H H'.length fr fr'/\Ox H H'.length H H'):Weak n0 fr H fr' H':=Weak.of h.1 h.2.2.1 h.2.2.2 h.2.1
theorem wk {n0 fr H fr' H'} (h:n0<=H'.length/\H'.length<=H.length/\OD H H'.length fr fr'/\Ox H H'.length H H':=by simp (disch:=omega) only [go_sem,seval]):Weak n0 fr H fr' H':=Weak.mk h
theorem we {n0 x H' a b} (h:n0<=List.length b/\List.length b<=H'.length/\OD H' (List.length b) [x] [a]/\Ox H' (List.length b) H' b:=by simp (disch:=omega) only [go_sem,seval]): ∃y H'',Weak n0 [x] H' [y] H''/\y=a/\H''=b:=⟨_,_,Weak.mk h,rfl,rfl⟩
attribute [go_sem] List.length_cons List.length_nil List.cons_append List.nil_append List.append_nil List.map_cons List.map_nil List.drop_zero List.drop_succ_cons List.drop_nil List.take_succ_cons List.take_zero List.take_nil List.all_cons List.all_nil
 Xi VY and_self true_and and_true Au As EB Cl QC Vt Bool.and_self Zx if_true Yo W2 J0 IntWalk.i64_in IntWalk.i32_in IntWalk.u8_in IntWalk.u64_in IntWalk.u32_in
 beq_self_eq_true JS List.replicate_zero Bool.or_true Bool.true_or Bool.or_false Bool.false_or Yn Wx
end Go.AM
namespace Go.AM
open Go.RowKit
theorem RP.weaker {X X':Nat->Prop} {w x v} (h:RP X w x v) (hx: ∀b,X' b->X b):RP X' w x v:=h.ext (w':=w) fun _ hb hs=>⟨fun h=>hb (hx _ h),hs,rfl⟩
theorem Good.forget {F w H' ι' w'} (he:Env F [] w) (hf: ∀b,F b->b<w.heap.size) (g:Good F [] [] w H' ι' w'):Good F [] [] w [] [] w' :=
 .up he ⟨⟨rfl,fun b hb=>by have:=hf b hb;have:=g.size;omega,fun i j b hi=>by simp at hi,fun i b hi=>by simp at hi,fun o cs ho=>by simp at ho,fun o S xs ho=>by simp at ho,fun o es ho=>by simp at ho,fun o T E r bs ho=>by simp at ho⟩,
  g.os,g.tape,g.output,fun b c t h=>(g.shape b c t h).imp (fun h=>absurd h.1 Zb) id,g.size,g.keep,fun _ _ h=>h,fun o ob ho=>by simp at ho⟩
theorem ACalls.pure {P g args} {y:PV} (h:ACalls P g args [] fun x _=>x= .p y):ACalls P g args [] fun x H'=>x= .p y/\H'= []:=by
 refine ⟨h.1,fun F ι w vs hr hv=> ?_⟩;have hι:ι= []:=Yv hr.len;subst hι;refine (h.2 F [] w vs hr hv).mono ?_;rintro e w' ⟨x,H',ι',v,rfl,rfl,gd,rv⟩
 cases rv with | p _ _ rp =>
 exact ⟨_,[],[],v,rfl,⟨rfl,rfl⟩,gd.forget hr.env hr.fin,.p _ _ (rp.weaker fun b hb=> .inl (by rcases hb with hb | hb;exact hb;simp at hb))⟩
theorem FE {F:Nat->Prop} {w w':World} {H':List Obj} {ι':List (Option Nat)} {v:Value} {o S n:Nat} {xs:List PV} (hF: ∀b,F b->b<w.heap.size) (hn:xs.length=n) (ho:oat H' o= .elems S xs)
  (gd:Good F [] [] w H' ι' w') (rv:RV F H' ι' w' (.sl o 0 n n) v): ∃ι2,Good F [] [] w [.elems S xs] ι2 w'/\RV F [.elems S xs] ι2 w' (.sl 0 0 n n) v:=by
 have hH:=Xr ho Zb;have hlt:=(ZS.1 hH).1
 have hlt':o<ι'.length:=by rw [gd.rel.len];exact hlt
 have hι':ι'[o]? =some (ι'[o]):=by simp [hlt']
 have hget: ∀ {i:Nat} {q:Option Nat},[ι'[o]][i]? =some q->i=0/\ι'[o]? =some q:=fun {i q} h=>by
  grind
 have hown: ∀b,Own F [ι'[o]] b->Own F ι' b:=fun b hb=>by
  rcases hb with hb | hb
  ·exact .inl hb
  ·simp at hb;right;rw [hb];simp
 refine ⟨[ι'[o]],⟨⟨⟨rfl,fun b hb=> ?_,fun i j b hi hj=> ?_,fun i b hi=> ?_,fun o' cs ho'=> ?_,fun o' S' xs' ho'=> ?_,fun o' es ho'=>by grind,fun o' T E r bs ho'=>by grind⟩,gd.rel.env.le hown⟩,gd.os,gd.tape,gd.output,fun b c t h=>(gd.shape b c t h).imp (fun h=>absurd h.1 Zb) id,gd.size,gd.keep,fun b hb _ h=> ?_,fun o ob ho=>by simp at ho⟩,?_⟩
 ·have:=hF b hb;have:=gd.size;omega
 ·grind
 ·exact gd.rel.avo o b (hget hi).2
 ·grind
 ·cases o' with
  | zero =>
   simp at ho';obtain ⟨rfl,rfl⟩:=ho';rcases gd.rel.elm o _ _ hH with ⟨e1,e2⟩ | ⟨b,c,t,cap,e1,e2,e3,e4,e5,e6,e7⟩
   ·grind
   ·exact .inr ⟨b,c,t,cap,by grind,e2,e3,e4,e5,e6,fun i x j y hi hj=>(e7 i x j y hi hj).weaker hown⟩
  | succ i=>simp at ho'
 ·simp at h;exact gd.own b hb Zb (by rw [h];simp)
 ·cases rv with
  | slNil _ S2 a h1 h2 =>
   rw [hH] at h2;simp at h2;obtain ⟨rfl,rfl⟩:=h2;exact .slNil 0 S a (by grind) rfl
  | sl _ _ _ _ b S2 cap t xs2 c h1 h2 ht hw hcap hl hlen hm =>
   rw [hH] at h2;simp at h2;obtain ⟨rfl,rfl⟩:=h2;exact .sl 0 0 n n b S cap t xs c (by grind) rfl hn hw hcap hl hlen hm
  | slD _ _ _ _ _ h1=>grind
  | slS _ _ _ _ _ S2 xs2 h1 hne=>grind
  | slC _ _ _ _ _ _ hd=>grind
theorem ACalls.fresh {P g args} {S n:Nat} {xs:List PV} (hn:xs.length=n) (h:ACalls P g args [] fun x H'=> ∃o,x= .sl o 0 n n/\oat H' o= .elems S xs):ACalls P g args [] fun x H'=>x= .sl 0 0 n n/\H'= [.elems S xs]:=by
 refine ⟨h.1,fun F ι w vs hr hv=> ?_⟩;have hι:ι= []:=Yv hr.len;subst hι;refine (h.2 F [] w vs hr hv).mono ?_;rintro e w' ⟨x,H',ι',v,rfl,⟨o,rfl,ho⟩,gd,rv⟩;obtain ⟨ι2,g2,r2⟩:=FE hr.fin hn ho gd rv
 grind
theorem ACalls.freshE {P g args} {α:Type} {S:Nat} {f:α->PV} {R:List α->Prop} (h:ACalls P g args [] fun x H'=> ∃l:List α,R l/\ ∃o,x= .sl o 0 l.length l.length/\oat H' o= .elems S (l.map f)) :
  ACalls P g args [] fun x H'=> ∃l:List α,R l/\x= .sl 0 0 l.length l.length/\H'= [.elems S (l.map f)]:=by
 refine ⟨h.1,fun F ι w vs hr hv=> ?_⟩;have hι:ι= []:=Yv hr.len;subst hι;refine (h.2 F [] w vs hr hv).mono ?_;rintro e w' ⟨x,H',ι',v,rfl,⟨l,hl,o,rfl,ho⟩,gd,rv⟩;obtain ⟨ι2,g2,r2⟩:=FE hr.fin Zb ho gd rv
 grind
theorem ACalls.frozen {P g args} {S n:Nat} {xs:List PV} (hn:xs.length=n) (h:ACalls P g args [] fun x H'=>x= .sl 0 0 n n/\H'= [.elems S xs]):ACalls P g args [] fun x H'=>x= .p (.list false xs)/\H'= []:=by
 refine ⟨h.1,fun F ι w vs hr hv=> ?_⟩;have hι:ι= []:=Yv hr.len;subst hι;refine (h.2 F [] w vs hr hv).mono ?_;rintro e w' ⟨x,H',ι',v,rfl,⟨rfl,rfl⟩,gd,rv⟩;have hk:Keeps (Own F ι') w' (Own F []) w':=fun b hb hs=>⟨fun h=>hb (.inl (by rcases h with h | h;exact h;simp at h)),hs,rfl⟩
 have:=Bz (S:=S) (xs:=xs) (off:=0) (len:=n) (tot:=n) (Own F []) (fun b hb h=>by
  rcases h with h | h
  ·exact (gd.rel.avo 0 b hb).1 h
  ·simp at h) hk gd.rel rfl hn Za rv
 rw [Xi,EK,Co Za] at this;exact ⟨_,[],[],v,rfl,⟨rfl,rfl⟩,gd.forget hr.env hr.fin,.p _ _ this⟩
theorem ACalls.frozenE {P g args} {α:Type} {S:Nat} {f:α->PV} {R:List α->Prop} (h:ACalls P g args [] fun x H'=> ∃l:List α,R l/\x= .sl 0 0 l.length l.length/\H'= [.elems S (l.map f)]) :
  ACalls P g args [] fun x H'=> ∃l:List α,R l/\x= .p (.list false (l.map f))/\H'= []:=by
 refine ⟨h.1,fun F ι w vs hr hv=> ?_⟩;have hι:ι= []:=Yv hr.len;subst hι;refine (h.2 F [] w vs hr hv).mono ?_;rintro e w' ⟨x,H',ι',v,rfl,⟨l,hl,rfl,rfl⟩,gd,rv⟩;have hk:Keeps (Own F ι') w' (Own F []) w':=fun b hb hs=>⟨fun h=>hb (.inl (by rcases h with h | h;exact h;simp at h)),hs,rfl⟩
 have:=Bz (S:=S) (xs:=l.map f) (off:=0) (len:=l.length) (tot:=l.length) (Own F []) (fun b hb h=>by
  rcases h with h | h
  ·exact (gd.rel.avo 0 b hb).1 h
  ·simp at h) hk gd.rel rfl Zb Za rv
 rw [Xi,EK,Co Zb] at this;exact ⟨_,[],[],v,rfl,⟨l,hl,rfl,rfl⟩,gd.forget hr.env hr.fin,.p _ _ this⟩
theorem ACalls.useV {P g args} {α:Type} {f:α->PV} {R:α->Prop} {H:List Obj} {K:V->List Obj->Prop} (h:ACalls P g args [] fun x H'=> ∃a:α,R a/\x= .p (f a)/\H'= []) (k: ∀a,R a->K (.p (f a)) H) (ha:Xj 0 args=true:=by rfl):ACalls P g args H K:=by
 refine (h.behind ha H).mono ?_;rintro x H' ⟨y',H1,⟨a,ra,rfl,rfl⟩,rfl,rfl⟩
 grind [shV]
theorem ACalls.useE {P g args} {α:Type} {S:Nat} {f:α->PV} {R:List α->Prop} {H:List Obj} {K:V->List Obj->Prop} (h:ACalls P g args [] fun x H'=> ∃l:List α,R l/\x= .sl 0 0 l.length l.length/\H'= [.elems S (l.map f)])
  (k: ∀l,R l->K (.sl H.length 0 l.length l.length) (H++ [.elems S (l.map f)])) (ha:Xj 0 args=true:=by rfl):ACalls P g args H K:=by
 refine (h.behind ha H).mono ?_;rintro x H' ⟨y',H1,⟨l,rl,rfl,rfl⟩,rfl,rfl⟩
 grind [shV,shO]
theorem ACalls.use {P g args} {y:PV} {H:List Obj} {K:V->List Obj->Prop} (h:ACalls P g args [] fun x H'=>x= .p y/\H'= []) (k:K (.p y) H) (ha:Xj 0 args=true:=by rfl):ACalls P g args H K:=by
 refine (h.behind ha H).mono ?_;rintro x H' ⟨y',H1,⟨rfl,rfl⟩,rfl,rfl⟩
 grind [shV]
theorem ACalls.useF {P g args} {S n:Nat} {xs:List PV} {H:List Obj} {K:V->List Obj->Prop} (h:ACalls P g args [] fun x H'=>x= .sl 0 0 n n/\H'= [.elems S xs]) (k:K (.sl H.length 0 n n) (H++ [.elems S xs])) (ha:Xj 0 args=true:=by rfl):ACalls P g args H K:=by
 refine (h.behind ha H).mono ?_;rintro x H' ⟨y',H1,⟨rfl,rfl⟩,rfl,rfl⟩
 grind [shV,shO]
theorem Zc {P:Program} {g:FuncId} {fn:Func} {c:Code} {args:List V} {y:PV} (hf:P.funcs[g]? =some fn) (hb:fn.body=some c) (hg:Zi P g)
  (h:JH [] P c (args++List.replicate (fn.ntmps-args.length) .junk) [] (Bx P fn.results.toList fun x _=>x= .p y)):ACalls P g args [] fun x H'=>x= .p y/\H'= [] :=
 (YL hf hb hg (Zh [] _ _ _ _ h)).pure
theorem Vh (cuts:List Nat) {P:Program} {g:FuncId} {fn:Func} {c:Code} {args:List V} {y:PV} (hf:P.funcs[g]? =some fn) (hb:fn.body=some c) (hg:Zi P g)
  (h:JH cuts P c (args++List.replicate (fn.ntmps-args.length) .junk) [] (Bx P fn.results.toList fun x _=>x= .p y)):ACalls P g args [] fun x H'=>x= .p y/\H'= [] :=
 (YL hf hb hg (Zh cuts _ _ _ _ h)).pure
theorem UK {P:Program} {g:FuncId} {fn:Func} {c:Code} {args:List V} {S n:Nat} {xs:List PV} (hn:xs.length=n) (hf:P.funcs[g]? =some fn) (hb:fn.body=some c) (hg:Zi P g)
  (h:JH [] P c (args++List.replicate (fn.ntmps-args.length) .junk) [] (Bx P fn.results.toList fun x H'=> ∃o,x= .sl o 0 n n/\oat H' o= .elems S xs)):ACalls P g args [] fun x H'=>x= .sl 0 0 n n/\H'= [.elems S xs] :=
 (YL hf hb hg (Zh [] _ _ _ _ h)).fresh hn
theorem GP (cuts:List Nat) {P:Program} {g:FuncId} {fn:Func} {c:Code} {args:List V} {S n:Nat} {xs:List PV} (hn:xs.length=n) (hf:P.funcs[g]? =some fn) (hb:fn.body=some c) (hg:Zi P g)
  (h:JH cuts P c (args++List.replicate (fn.ntmps-args.length) .junk) [] (Bx P fn.results.toList fun x H'=> ∃o,x= .sl o 0 n n/\oat H' o= .elems S xs)):ACalls P g args [] fun x H'=>x= .sl 0 0 n n/\H'= [.elems S xs] :=
 (YL hf hb hg (Zh cuts _ _ _ _ h)).fresh hn
theorem ZG (cuts:List Nat) {P:Program} {g:FuncId} {fn:Func} {c:Code} {args:List V} {α:Type} {S:Nat} {f:α->PV} {R:List α->Prop} (hf:P.funcs[g]? =some fn) (hb:fn.body=some c) (hg:Zi P g)
  (h:JH cuts P c (args++List.replicate (fn.ntmps-args.length) .junk) [] (Bx P fn.results.toList fun x H'=> ∃l:List α,R l/\ ∃o,x= .sl o 0 l.length l.length/\oat H' o= .elems S (l.map f))):ACalls P g args [] fun x H'=> ∃l:List α,R l/\x= .sl 0 0 l.length l.length/\H'= [.elems S (l.map f)] :=
 (YL hf hb hg (Zh cuts _ _ _ _ h)).freshE
theorem Weak.ofNil {n0 fr H fr' H'} (t S:Nat) (h:gt fr t= .p (.list true [])) (hn:n0<=H.length) (k:Weak n0 (pt fr t (.sl H.length 0 0 0)) (H++ [.elems S []]) fr' H'):Weak n0 fr H fr' H' :=
 (Weak.nil t S h hn).trans k
end Go.AM
namespace Go.AM
open Go.RowKit
section
variable {P : Program} {H : List Obj} {t : TypeId} {fr : List V}
def Ff (e:Option (Option Nat×Nat)) (c:Bool) (xs:List PV) (lo hi:V):Option V:=match e,lo,hi with
 | some (none,S),.p (.int _ a),.p (.int _ b)=>if BO S xs=true/\0<=a/\a<=b/\b<=xs.length then some (.p (.list (c&&decide (b=xs.length)) ((xs.take b.toNat).drop a.toNat))) else none
 | _,_,_=>none
def V.isInt : V->Option Int
 | .p (.int _ n)=>some n
 | _=>none
theorem V.isInt_some {x:V} {n} (h:x.isInt=some n): ∃k,x= .p (.int k n):=by
 unfold V.isInt at h;grind
theorem Q9 {d:Int} {x:Operand} :OC d fr (some x)=(ev fr x).isInt:=rfl
theorem Dh {c xs k k' a b} :(JG P t c xs a b none).map .p=Ff (Y6 P t) c xs (.p (.int k a)) (.p (.int k' b)):=by
 simp only [JG,Ff]
 grind
theorem Ry {e c xs lo hi} (h:lo.isInt=none):Ff e c xs lo hi=none:=by
 unfold Ff;grind [V.isInt]
theorem Rx {e c xs lo hi} (h:hi.isInt=none):Ff e c xs lo hi=none:=by
 unfold Ff;grind [V.isInt]
@[go_sem] theorem Zea {c xs hi} :W5 P H t fr (.p (.list c xs)) none (some hi) none=Ff (Y6 P t) c xs (.p (.int .i64 0)) (ev fr hi):=by
 simp only [W5,Q9]
 cases h:(ev fr hi).isInt with
 | none=>simp [OC,Rx h]
 | some n=>obtain ⟨k,e⟩:=V.isInt_some h;rw [e,<- Dh];rfl
@[go_sem] theorem Zeb {c xs lo} :W5 P H t fr (.p (.list c xs)) (some lo) none none=Ff (Y6 P t) c xs (ev fr lo) (.p (.int .i64 (List.length xs))):=by
 simp only [W5,Q9]
 cases h:(ev fr lo).isInt with
 | none=>simp [Ry h]
 | some n=>obtain ⟨k,e⟩:=V.isInt_some h;rw [e,<- Dh];rfl
@[go_sem] theorem uL {c xs lo hi} :W5 P H t fr (.p (.list c xs)) (some lo) (some hi) none=Ff (Y6 P t) c xs (ev fr lo) (ev fr hi):=by
 simp only [W5,Q9]
 cases h:(ev fr lo).isInt with
 | none=>simp [Ry h]
 | some n =>
  cases h2:(ev fr hi).isInt with
  | none=>simp [Rx h2]
  | some m=>grind [V.isInt_some,Dh]
@[go_sem] theorem Zhh {α:Type} {f:α->PV} {l:List α} {S c k k' a b} (h0:0<=a) (h1:a<=b) (h2:b<=(l.length:Int)) :
  Ff (some (none,S)) c (l.map f) (.p (.int k a)) (.p (.int k' b))=if BO S (l.map f)=true then some (.p (.list (c&&decide (b=l.length)) (((l.take b.toNat).drop a.toNat).map f))) else none:=by
 simp_all [Ff]
end
def Me (P:Program) (d:Option TypeDesc) (x i:V):Option V :=
 match d,x,i with
 | some .string,.p (.str s),.p (.int _ n)=>if 0<=n then (s[n.toNat]?).map fun b=> .p (.int .u8 b.toNat) else none
 | some (.array k e),.p (.agg cs),.p (.int _ n)=>if 0<=n/\n<k then (match YP P e with | some m=>(apart P e cs (n.toNat*m)).map .p | none=>none) else none
 | _,_,_=>none
@[go_sem] theorem ZkZ {P:Program} {t:TypeId} {x i:V} :Mf P t x i=Me P (P.underlying t) x i:=Zm rfl rfl
@[go_sem] theorem ZdQ {P:Program} {s:List UInt8} {k n} (h0:0<=n) (h1:n<(s.length:Int)):Me P (some .string) (.p (.str s)) (.p (.int k n))=some (.p (.int .u8 ((nth s n.toNat).toNat:Nat))):=by
 grind [Me,Zj]
def IJ (d:Option TypeDesc) (s:List UInt8) (lo hi:V):Option V:=match d,lo,hi with
 | some .string,.p (.int _ a),.p (.int _ b)=>if 0<=a/\a<=b/\b<=s.length then some (.p (.str ((s.take b.toNat).drop a.toNat))) else none
 | _,_,_=>none
theorem oO {d s lo hi} (h:lo.isInt=none):IJ d s lo hi=none:=by
 unfold IJ;grind [V.isInt]
theorem oN {d s lo hi} (h:hi.isInt=none):IJ d s lo hi=none:=by
 unfold IJ;grind [V.isInt]
section
variable {P : Program} {H : List Obj} {t : TypeId} {fr : List V}
theorem Tj {s:List UInt8} {k k' a b} :(match P.underlying t with | some .string=>(if 0<=a/\a<=b/\b<=(s.length:Int) then some (V.p (.str ((s.take b.toNat).drop a.toNat))) else none) | _=>none)=IJ (P.underlying t) s (.p (.int k a)) (.p (.int k' b)):=by
 simp only [IJ]
 grind
@[go_sem] theorem oP {s lo hi} :W5 P H t fr (.p (.str s)) (some lo) (some hi) none=IJ (P.underlying t) s (ev fr lo) (ev fr hi):=by
 simp only [W5,Q9]
 cases h:(ev fr lo).isInt with
 | none=>rw [oO h];simp
 | some n =>
  cases h2:(ev fr hi).isInt with
  | none=>rw [oN h2];simp
  | some m =>
   grind [V.isInt_some,Tj]
def Ml (e:Option (Option Nat×Nat)) (xs:List PV) (hi mx:V):Option V:=match e,hi,mx with
 | some (none,S),.p (.int _ b),.p (.int _ m)=>if BO S xs=true/\0<=b/\b<=xs.length/\m=b then some (.p (.list true (xs.take b.toNat))) else none
 | _,_,_=>none
theorem oL {e xs hi mx} (h:hi.isInt=none):Ml e xs hi mx=none:=by
 unfold Ml;grind [V.isInt]
theorem oM {e xs hi mx} (h:mx.isInt=none):Ml e xs hi mx=none:=by
 unfold Ml;grind [V.isInt]
@[go_sem] theorem uK {c xs hi mx} :W5 P H t fr (.p (.list c xs)) none (some hi) (some mx)=Ml (Y6 P t) xs (ev fr hi) (ev fr mx):=by
 simp only [W5,Q9]
 cases h:(ev fr hi).isInt with
 | none=>grind [oL]
 | some n =>
  cases h2:(ev fr mx).isInt with
  | none=>grind [oM]
  | some m =>
   obtain ⟨k,e⟩:=V.isInt_some h;obtain ⟨k2,e2⟩:=V.isInt_some h2;rw [e,e2];simp only [OC,JG,Ml]
   grind
@[go_sem] theorem Zhg {α:Type} {f:α->PV} {l:List α} {S k k' b m} (h0:m=b) (h1:b=(l.length:Int)):Ml (some (none,S)) (l.map f) (.p (.int k b)) (.p (.int k' m))=if BO S (l.map f)=true then some (.p (.list true (l.map f))) else none:=by
 subst h0;subst h1;simp only [Ml,Zx]
 by_cases h:BO S (l.map f)=true
 ·simp_all [Co]
 grind
end
@[go_sem low] theorem eA {H:List Obj} {S b xs ys o n} :V5 H (some (S,b)) (.elems S xs) o n (some ys)=if xs.length=n/\KT S ys=true/\(n+ys.length)*b<=140737488355328/\n+ys.length<=140737488355328 then some (.sl o 0 (n+ys.length) (n+ys.length),F2 H o (.elems S (xs++ys))) else none:=by simp [V5]
@[go_sem] theorem ZmP {H:List Obj} {n f a b f' a' b'} :DU H n (.fn f a b) (.fn f' a' b')=((f'=f/\a'=a/\b'=b)/\refB n (.fn f a b)=true):=by simp [DU,cX]
@[go_sem] theorem Zl3 {n f a b} :refB n (.fn f a b)=(Xj n a&&Xj n b):=by simp [refB]
@[go_sem] theorem ZnK {n x} :refB n (.p x)=true:=by simp [refB]
@[go_sem] theorem ZjM {n o off} :refB n (.ptr o off)=decide (o<n):=by simp [refB]
@[go_sem] theorem Zl4 {n o off l t} :refB n (.sl o off l t)=decide (o<n):=by simp [refB]
@[go_sem] theorem ZeV {n} :Xj n []=true:=by simp [Xj]
@[go_sem] theorem ZcV {n x l} :Xj n (x::l)=(refB n x&&Xj n l):=by simp [Xj]
theorem ACalls.useH {P g args H} {v:V} {H2:List Obj} {K:V->List Obj->Prop} (h:ACalls P g args H fun x H'=>x=v/\H'=H2) (k:K v H2):ACalls P g args H K :=
 h.mono (by grind)
theorem BP {α:Type} {f:α->PV} {S:Nat} (h: ∀x,(f x).cells.length=S) (l:List α):BO S (l.map f)=true:=by
 cases l with
 | nil=>rfl
 | cons x l=>simp [BO,h]
@[go_sem] theorem Zk3 {k k'} {a b:Int} (h:b<=a):IC false [.p (.int k a),.p (.int k' b)]=some (.int k a):=by simp [IC];omega
def QP (F:Option (Nat×Nat×PV)) (H:List Obj) (x y:V):Option (V×List Obj):=match F,x,y with
 | some (S,by',z),.p (.int .i64 n),.p (.int .i64 m)=>if n=m/\0<=n/\(by':Int)*n<=281474976710656/\n<=281474976710656 then some (.sl H.length 0 n.toNat n.toNat,H++ [.elems S (List.replicate n.toNat z)]) else none
 | _,_,_=>none
theorem Fa {P:Program} {t:TypeId} {fr:List V} {H:List Obj} {x y:Operand} {F} (h:Sm P t=some F):WU P (.makeSlice t x y) fr H=QP (some F) H (ev fr x) (ev fr y):=by
 unfold Sm at h
 split at h
 ·rename_i e hu
  split at h
  ·rename_i S' z' b h1 h2 h3
   split at h
   ·rename_i hc;simp at h;subst h
    have h3':(P.info? e).map (fun x=>(x.bytes:Int))=some (b:Int):=by
     cases hi:P.info? e with
     | none=>grind
     | some i=>grind
    simp only [WU,hu,h2,hc.1,if_true,Rt,h1,h3'];generalize ev fr x=X;generalize ev fr y=Y
    by_cases hX: ∃n,X= .p (.int .i64 n)
    ·obtain ⟨n,rfl⟩:=hX
     by_cases hY: ∃m,Y= .p (.int .i64 m)
     ·obtain ⟨m,rfl⟩:=hY;simp [QP,hc.2]
     ·have e1:QP (some (S',b,z')) H (.p (.int .i64 n)) Y=none:=by
       unfold QP;grind
      grind
    ·have e1:QP (some (S',b,z')) H X Y=none:=by
      unfold QP;grind
     grind
   ·cases h
  ·cases h
 ·cases h
@[go_sem] theorem ZdZ {H:List Obj} {S b:Nat} {z n} (h0:0<=n) (h1:(b:Int)*n<=281474976710656) (h2:n<=281474976710656):QP (some (S,b,z)) H (.p (.int .i64 n)) (.p (.int .i64 n))=some (.sl H.length 0 n.toNat n.toNat,H++ [.elems S (List.replicate n.toNat z)]):=by
 simp_all [QP]
theorem ZcH (x y:Nat) (hx:x<9223372036854775808) (hy:y<9223372036854775808):IntKind.i64.wrap ((BitVec.ofInt 64 (x:Int)|||BitVec.ofInt 64 (y:Int)).toNat:Int)=((x|||y:Nat):Int):=by
 have e:(BitVec.ofInt 64 (x:Int)|||BitVec.ofInt 64 (y:Int)).toNat=x|||y:=by
  grind
 have h:x|||y<2^63:=Q1 Za Za
 grind [IntWalk.i64_in]
theorem nX (x y:Nat) (hx:x<9223372036854775808) (hy:y<9223372036854775808):IntKind.i64.wrap ((BitVec.ofInt 64 (x:Int)&&&BitVec.ofInt 64 (y:Int)).toNat:Int)=((x&&&y:Nat):Int):=by
 grind [Nat.and_le_left,IntWalk.i64_in]
@[go_sem high] theorem dK {P:Program} {t:TypeId} {x y:Nat} (hx:x<9223372036854775808) (hy:y<9223372036854775808):Yd P .or t (.p (.int .i64 (x:Int))) (.p (.int .i64 (y:Int)))=some (.int .i64 ((x|||y:Nat):Int)):=by
 rw [Rp];exact ZW (fun q=>some (PV.int .i64 q)) (ZcH x y hx hy)
@[go_sem high] theorem S8 {P:Program} {t:TypeId} {x y:Nat} (hx:x<9223372036854775808) (hy:y<9223372036854775808):Yd P .and t (.p (.int .i64 (x:Int))) (.p (.int .i64 (y:Int)))=some (.int .i64 ((x&&&y:Nat):Int)):=by
 rw [dI];exact ZW (fun q=>some (PV.int .i64 q)) (nX x y hx hy)
def pw (k:Nat):Nat:=2^k
theorem EU (k:Nat):pw (k+1)=2*pw k:=by grind [pw]
theorem Ks {k m:Nat} (h:k<=m):pw k<=pw m:=Ym Za h
theorem Ga (k:Nat):0<pw k:=Nat.pow_pos Za
theorem F9 : pw 62=4611686018427387904:=by decide
@[go_sem high] theorem ZdB {P:Program} {t:TypeId} {k'} {a:Int} (h0:0<=a) (h1:a<=62):Yd P .shl t (.p (.int .i64 1)) (.p (.int k' a))=some (.int .i64 ((pw a.toNat:Nat):Int)):=by
 rw [dM h0]
 have h2:min a.toNat IntKind.i64.bits=a.toNat:=by show min a.toNat 64=a.toNat;omega
 rw [h2,Int.one_mul]
 have h3:((2:Int)^a.toNat)=((pw a.toNat:Nat):Int):=by simp [pw]
 rw [h3];have:=Ks (show a.toNat<=62 by omega)
 grind [F9,IntWalk.i64_in]
attribute [go_sem] List.length_append List.map_append not_false_eq_true not_true_eq_false false_and and_false true_or or_true false_or or_false Classical.not_not Bool.false_eq_true Bool.and_false Bool.false_and
end Go.AM
namespace Go.AM
open Go.RowKit
theorem La {P ds frJ H} {K K':List V->Prop} : ∀(l:List Oper) (i:Nat) (vals:List V),(∀ys,ys.length=vals.length+l.length->K ys->K' ys)->hd P ds frJ H K i l vals->hd P ds frJ H K' i l vals
 | [],i,vals,hk,h=>hk vals rfl h
 | o::l,i,vals,hk,h=>by
  have ih: ∀y,hd P ds frJ H K (i+1) l (vals++ [y])->hd P ds frJ H K' (i+1) l (vals++ [y]):=fun y=>La l (i+1) (vals++ [y]) fun ys hy=>hk ys (by simp at hy ⊢;omega);simp only [hd] at h ⊢
  split at h
  ·obtain ⟨y,h1,h2⟩:=h;exact ⟨y,h1,ih y h2⟩
  ·unfold XI at h ⊢
   split at h
   ·exact ⟨fun e=>by obtain ⟨y,h1,h2⟩:=h.1 e;exact ⟨y,h1,ih y h2⟩,fun e=>ih _ (h.2 e)⟩
   ·exact ih _ h
   ·exact h.elim
def hall : List (Option Nat)->List V->List V->List V
 | some d::ds,v::vals,fr=>hall ds vals (pt fr d v)
 | none::ds,_::vals,fr=>hall ds vals fr
 | _,_,fr=>fr
theorem Bn (d:Option Nat) (v:V) (ds:List (Option Nat)) (vals:List V): ∀(l:List Nat) (fr:List V),ZK (d::ds) (v::vals) (l.map (· +1)) fr=ZK ds vals l fr
 | [],fr=>rfl
 | j::l,fr=>by
  simp only [Zs,ZK,Cl]
  split<;>exact Bn d v ds vals l _
theorem FH : ∀(ds:List (Option Nat)) (vals:List V) (fr:List V),vals.length=ds.length->ZK ds vals (List.range ds.length) fr=hall ds vals fr
 | [],[],fr,_=>rfl
 | d::ds,v::vals,fr,h=>by
  have ih:=fun fr=>FH ds vals fr (by simpa using h);rw [ZA,List.range_succ_eq_map]
  cases d with
  | none=>simp only [ZK,EB,hall];rw [Bn];exact ih fr
  | some d=>simp only [ZK,EB,hall];rw [Bn];exact ih _
 | [],_::_,_,h=>by simp at h
 | _::_,[],_,h=>by simp at h
theorem Fg {P:Program} {id:Nat} {l:List Oper} {fr:List V} {H:List Obj} {Q:Exit->List V->List Obj->Prop} {t} (hm:P.follows .mixedOrders=true) (hB:WY (List.toArray l) l.length=true)
  (h:hd P (l.map (·.dst)) (Z1 (l.map (·.dst)) fr) H (Zu (fun vals=>Q .normal (hall (l.map (·.dst)) vals (Z1 (l.map (·.dst)) fr)) H) ⟨⟩) 0 l []) :
  AWP P (.region id (Zu (List.toArray l) t) true) fr H Q:=by
 refine Hf (ops:=List.toArray l) l.length hm hB ?_;have e0:(List.toArray l).toList=l:=rfl;rw [e0];have e1:(l.map (fun x=>Oper.dst x)).take l.length=l.map (·.dst):=Co Zb;have e2:l.take l.length=l:=XX
 have e3:l.drop l.length= []:=Zb
 rw [e1,e2,e3];refine La _ _ _ (fun ys hy hk=> ?_) h;have e4:=FH (l.map (·.dst)) ys (Z1 (l.map (·.dst)) fr) (by grind);rw [Zx] at e4;simp only [YA];rw [e4];exact hk
def TQ (A:V->Prop) (B:V->Prop):Prop:= ∃y,A y/\B y
section
variable {P : Program} {ds : List (Option Nat)} {frJ : List V} {H : List Obj} {K : List V -> Prop} {i : Nat} {r : List Oper} {vals : List V} {d : Option Nat} {op : Op} {t : TypeId} {ps : String} {af : Array Edge}
@[go_sem ↓] theorem Znm : hd P ds frJ H K i [] vals=K vals:=Zm rfl rfl
@[go_sem ↓] theorem ZlG : hd P ds frJ H K i (⟨d,op,t,ps,af,none⟩::r) vals=TQ (fun y=>ZI P ⟨d,op,t,ps,af,none⟩ (Lb (ZK ds vals (ZN i ⟨d,op,t,ps,af,none⟩) frJ)) H (Zu (fun x H'=>x=y/\H'=H) ⟨⟩)) (Zu (fun y=>hd P ds frJ H K (i+1) r (vals++ [y])) ⟨⟩):=Zm rfl rfl
@[go_sem ↓, go_sem] theorem Znc {v:V} {B:V->Prop} {t} :TQ (fun y=>v=y) (Zu B t)=B v:=by simp [TQ,Zu]
@[go_sem] theorem Zeu {l:List Edge} {g} :ZN i ⟨d,op,t,ps,List.toArray l,g⟩=(l.filter fun e=>Region.binds .any e&&decide (e.on<i)).map (·.on):=Zm rfl rfl
@[go_sem] theorem xY {on} :Region.binds .any ⟨on,.data⟩=true:=Zm rfl rfl
@[go_sem] theorem uY {on} :Region.binds .any ⟨on,.phase⟩=true:=Zm rfl rfl
@[go_sem] theorem uX {on} :Region.binds .any ⟨on,.chain⟩=true:=Zm rfl rfl
@[go_sem] theorem xZ {on k} :Region.binds .any ⟨on,.textOnly k⟩=false:=Zm rfl rfl
@[go_sem] theorem Zhp {on k} :Region.binds .any ⟨on,.gcOnly k⟩=false:=Zm rfl rfl
def R5 (ds:List (Option Nat)) (vals:List V) (l:List Nat) (fr:List V) (a:Option (Option Nat)) (v:Option V):List V:=match a,v with
 | some (some d),some v=>ZK ds vals l (pt fr d v)
 | _,_=>ZK ds vals l fr
@[go_sem] theorem ZhW {fr} :ZK ds vals [] fr=fr:=Zm rfl rfl
@[go_sem] theorem ZeE {j l fr} :ZK ds vals (j::l) fr=R5 ds vals l fr ds[j]? vals[j]? :=by rfl
@[go_sem] theorem zF {l fr d v} :R5 ds vals l fr (some (some d)) (some v)=ZK ds vals l (pt fr d v):=Zm rfl rfl
@[go_sem] theorem Zey {d ds v vals fr} :hall (some d::ds) (v::vals) fr=hall ds vals (pt fr d v):=Zm rfl rfl
@[go_sem] theorem ZhQ {fr} :hall [] [] fr=fr:=Zm rfl rfl
@[go_sem] theorem ZeD {fr} :Z1 [] fr=fr:=Zm rfl rfl
@[go_sem] theorem zD {d l fr} :Z1 (some d::l) fr=Z1 l (pt fr d .junk):=Zm rfl rfl
theorem Zn {f azs} {z:PV} {B:V->Prop} {t} (h:ACalls P f azs [] fun x H'=>x= .p z/\H'= []) (k:B (.p z)) (ha:Xj 0 azs=true:=by rfl) :
  TQ (fun y=>ACalls P f azs H (Zu (Zu (fun x H'=>x=y/\H'=H) ⟨⟩) ⟨⟩)) (Zu B t) :=
 ⟨.p z,h.use ⟨rfl,rfl⟩ ha,k⟩
end
section
variable {P : Program} {fr : List V} {H : List Obj} {k : V -> List Obj -> Prop} {d : Option Nat} {t : TypeId} {ps : String} {af : Array Edge} {g : Option (Nat × Bool)}
@[go_sem ↓] theorem xL {u n l} :ZI P ⟨d,.buildSlice u n (List.toArray l),t,ps,af,g⟩ fr H k=Bv ((Rr (UT P u) H n (l.map fun x=>(x.1,ev fr x.2))).map .p) (Zu (fun v=>k v H) ⟨⟩):=by
 grind [ZI,Bv,Zu]
@[go_sem] theorem wS {S n l} :Rr (some S) H n l=if n=l.length/\n*S<=16777216/\0<S then (Jm H S 0 l).map (.list false) else none:=Zm rfl rfl
@[go_sem ↓] theorem uO {x} :ZI P ⟨d,.move x,t,ps,af,g⟩ fr H k=Zw P ⟨d,.move x,t,ps,af,g⟩ fr H k:=rfl
@[go_sem ↓] theorem nI {x} :ZI P ⟨d,.assign x,t,ps,af,g⟩ fr H k=Zw P ⟨d,.assign x,t,ps,af,g⟩ fr H k:=rfl
@[go_sem ↓] theorem uP {x y z} :ZI P ⟨d,.pick x y z,t,ps,af,g⟩ fr H k=Zw P ⟨d,.pick x y z,t,ps,af,g⟩ fr H k:=rfl
@[go_sem ↓] theorem oQ {x} :ZI P ⟨d,.alloc x,t,ps,af,g⟩ fr H k=Zw P ⟨d,.alloc x,t,ps,af,g⟩ fr H k:=rfl
@[go_sem ↓] theorem xJ {x y} :ZI P ⟨d,.box x y,t,ps,af,g⟩ fr H k=Zw P ⟨d,.box x y,t,ps,af,g⟩ fr H k:=rfl
@[go_sem ↓] theorem oT {x y} :ZI P ⟨d,.build x y,t,ps,af,g⟩ fr H k=Zw P ⟨d,.build x y,t,ps,af,g⟩ fr H k:=rfl
@[go_sem ↓] theorem uN {x y} :ZI P ⟨d,.load x y,t,ps,af,g⟩ fr H k=Zw P ⟨d,.load x y,t,ps,af,g⟩ fr H k:=rfl
@[go_sem ↓] theorem oX {x y z} :ZI P ⟨d,.store x y z,t,ps,af,g⟩ fr H k=Zw P ⟨d,.store x y z,t,ps,af,g⟩ fr H k:=rfl
@[go_sem ↓] theorem cQ {x} :ZI P ⟨d,.nilCheck x,t,ps,af,g⟩ fr H k=Zw P ⟨d,.nilCheck x,t,ps,af,g⟩ fr H k:=rfl
@[go_sem ↓] theorem oS {x y z u v} :ZI P ⟨d,.binOp x y z u v,t,ps,af,g⟩ fr H k=Zw P ⟨d,.binOp x y z u v,t,ps,af,g⟩ fr H k:=rfl
@[go_sem ↓] theorem uQ {x y z} :ZI P ⟨d,.unOp x y z,t,ps,af,g⟩ fr H k=Zw P ⟨d,.unOp x y z,t,ps,af,g⟩ fr H k:=rfl
@[go_sem ↓] theorem eJ {x y z} :ZI P ⟨d,.convert x y z,t,ps,af,g⟩ fr H k=Zw P ⟨d,.convert x y z,t,ps,af,g⟩ fr H k:=rfl
@[go_sem ↓] theorem cP {x y z} :ZI P ⟨d,.makeFunc x y z,t,ps,af,g⟩ fr H k=Zw P ⟨d,.makeFunc x y z,t,ps,af,g⟩ fr H k:=rfl
@[go_sem ↓] theorem Tn {x y z} :ZI P ⟨d,.makeSlice x y z,t,ps,af,g⟩ fr H k=Zw P ⟨d,.makeSlice x y z,t,ps,af,g⟩ fr H k:=rfl
@[go_sem ↓] theorem oW {x y z u v} :ZI P ⟨d,.slice x y z u v,t,ps,af,g⟩ fr H k=Zw P ⟨d,.slice x y z u v,t,ps,af,g⟩ fr H k:=rfl
@[go_sem ↓] theorem Tl {x y z} :ZI P ⟨d,.fieldAddr x y z,t,ps,af,g⟩ fr H k=Zw P ⟨d,.fieldAddr x y z,t,ps,af,g⟩ fr H k:=rfl
@[go_sem ↓] theorem oU {x y z} :ZI P ⟨d,.field x y z,t,ps,af,g⟩ fr H k=Zw P ⟨d,.field x y z,t,ps,af,g⟩ fr H k:=rfl
@[go_sem ↓] theorem Tm {x y z} :ZI P ⟨d,.indexAddr x y z,t,ps,af,g⟩ fr H k=Zw P ⟨d,.indexAddr x y z,t,ps,af,g⟩ fr H k:=rfl
@[go_sem ↓] theorem oV {x y z} :ZI P ⟨d,.index x y z,t,ps,af,g⟩ fr H k=Zw P ⟨d,.index x y z,t,ps,af,g⟩ fr H k:=rfl
@[go_sem ↓] theorem eK {x y} :ZI P ⟨d,.extract x y,t,ps,af,g⟩ fr H k=Zw P ⟨d,.extract x y,t,ps,af,g⟩ fr H k:=rfl
@[go_sem ↓] theorem uM {x y z} :ZI P ⟨d,.call ⟨.value x,y,z⟩,t,ps,af,g⟩ fr H k=Zw P ⟨d,.call ⟨.value x,y,z⟩,t,ps,af,g⟩ fr H k:=rfl
@[go_sem ↓] theorem xK {y z} :ZI P ⟨d,.call ⟨.builtin .len,y,z⟩,t,ps,af,g⟩ fr H k=Zw P ⟨d,.call ⟨.builtin .len,y,z⟩,t,ps,af,g⟩ fr H k:=rfl
@[go_sem ↓] theorem xM {y z} :ZI P ⟨d,.call ⟨.builtin .max,y,z⟩,t,ps,af,g⟩ fr H k=Zw P ⟨d,.call ⟨.builtin .max,y,z⟩,t,ps,af,g⟩ fr H k:=rfl
@[go_sem ↓] theorem xN {y z} :ZI P ⟨d,.call ⟨.builtin .min,y,z⟩,t,ps,af,g⟩ fr H k=Zw P ⟨d,.call ⟨.builtin .min,y,z⟩,t,ps,af,g⟩ fr H k:=rfl
def RW (P:Program) (H:List Obj) (t u:TypeId) (x y:V) (k:V->List Obj->Prop):Prop:= ∃S zs,WO P H t u x y=some (.sl H.length 0 zs.length zs.length,H++ [.elems S zs])/\k (.p (.list false zs)) H
@[go_sem ↓] theorem nH {x y u u2} :ZI P ⟨d,.call ⟨.builtin .append,#[x,y],#[u,u2]⟩,t,ps,af,g⟩ fr H k=RW P H u u2 (ev fr x) (ev fr y) (Zu k ⟨⟩):=rfl
def Th (F:Option (Nat×Nat)) (xs:List PV) (ys:Option (List PV)):Option PV:=match F,ys with
 | some (S,by'),some ys=>if KT S ys=true/\KT S xs=true/\(xs= []\/0<ys.length)/\(xs.length+ys.length)*by'<=140737488355328/\xs.length+ys.length<=140737488355328 then some (.list false (xs++ys)) else none
 | _,_=>none
@[go_sem] theorem Zd9 {α:Type} {S b} {f:α->PV} {l:List α} {x:PV} (hb:(l.length+1)*b<=140737488355328) (hb2:l.length+1<=140737488355328):Th (some (S,b)) (l.map f) (some [x])=if KT S [x]=true/\KT S (l.map f)=true then some (.list false (l.map f++ [x])) else none:=by
 grind [Th]
theorem Pb {u u2:TypeId} {F} {xs:List PV} {y:V} (hF:Qs P u=some F) {tt} :RW P H u u2 (.p (.list true xs)) y (Zu k tt)=Bv ((Th (some F) xs (YB (P.underlying u2) H y)).map .p) (Zu (fun v=>k v H) ⟨⟩):=by
 obtain ⟨S,by'⟩:=F;obtain ⟨e,z,h1,h2,h3,h4,h6⟩:=Fc hF;have e1:YB (P.underlying u2) H y=GR P H u2 y:=Zm rfl rfl;rw [e1];unfold RW Zu
 cases h5:GR P H u2 y with
 | none =>
  grind [WO,Th,Bv]
 | some ys =>
  rw [Iv h1 h2 h3 h4 h5 h6];simp only [Th]
  by_cases hc:KT S ys=true
  ·rw [if_pos hc];simp only [hc,true_and]
   by_cases hd:KT S xs=true/\(xs= []\/0<ys.length)/\(xs.length+ys.length)*by'<=140737488355328/\xs.length+ys.length<=140737488355328
   ·rw [if_pos hd,if_pos hd];simp only [Au,Bv,eq_iff_iff]
    constructor
    ·simp_all
    ·intro hk;exact ⟨S,xs++ys,Zb,hk⟩
   simp_all [if_neg,Bv]
  ·simp [hc,Bv]
theorem IL {o fr' H'} (h:fr=fr') (h2:H=H'):ZI P o fr H k=ZI P o fr' H' k:=by rw [h,h2]
end
attribute [congr] IL
attribute [go_sem] List.filter_cons List.filter_nil
end Go.AM
namespace Go.AM
open Go.RowKit
mutual
/-- no memory in it -/
def Pi : PV->Bool
 | .list _ xs=>xs.isEmpty
 | .agg cs=>MT cs
 | _=>true
def MT : List PV->Bool
 | []=>true
 | x::l=>Pi x&&MT l
end
theorem Ak : ∀ {l:List PV},MT l=true-> ∀(j:Nat) (x:PV),l[j]? =some x->Pi x=true
 | [],_,j,x,h=>by simp at h
 | y::l,hh,j,x,h=>by
  simp [MT] at hh
  cases j with
  | zero=>simp at h;subst h;exact hh.1
  | succ j=>exact Ak hh.2 j x (by simpa using h)
theorem RP.anywhere {X X':Nat->Prop} {w w' x v} (h:RP X w x v) (hf:Pi x=true):RP X' w' x v:=by
 induction h with
 | int k n=>exact .int k n
 | bool b=>exact .bool b
 | str s=>exact .str s
 | nilp=>exact .nilp
 | nili=>exact .nili
 | nilf=>exact .nilf
 | nilm=>exact .nilm
 | fn f=>exact .fn f
 | nils cl=>exact .nils cl
 | emp cl a cap hc hm ha=>exact .emp cl a cap hc hm ha
 | list cl xs b off cap S u hX hb hc hm hcl hS hu hr ih =>
  have:xs= []:=by grind [Pi]
  subst this;exact .emp cl _ cap (fun h=>by grind) hm (fun _ x hx=>by grind)
 | agg cs a hs _ ih=>exact .agg cs a hs fun j c hj=>ih j c hj (Ak (by grind [Pi]) j c hj)
def vw (H:List Obj):V->Option V
 | .p x=>some (.p x)
 | .fn f [] []=>some (.fn f [] [])
 | .sl o off len tot=>match oat H o with
  | .elems _ xs=>if xs.length=tot/\off+len<=tot then some (.p (.list false ((xs.take (off+len)).drop off))) else none
  | _=>none
 | _=>none
def vws (H:List Obj):List V->Option (List V)
 | []=>some []
 | x::l=>match vw H x,vws H l with | some y,some ys=>some (y::ys) | _,_=>none
abbrev AX : Nat->Prop:=fun _=>False
theorem CM {b:Nat} : ¬Own AX [] b:=by simp [Own]
theorem ZjP {F H ι w x v y} (hr:Rel F H ι w) (h:RV F H ι w x v) (hy:vw H x=some y):RV AX [] [] w y v:=by
 unfold vw at hy
 split at hy
 ·simp at hy;subst hy
  cases h with | p _ _ h=>exact .p _ _ (h.weaker fun b hb=>absurd hb CM)
 ·simp at hy;subst hy;generalize v=u at h
  cases h with
  | fn _ _ _ a e hs ht _ _=>exact .fn _ [] [] a e hs ht (fun j c hj=>by simp at hj) (fun j c hj=>by simp at hj)
 ·rename_i o off len tot
  split at hy
  ·rename_i S xs ho
   split at hy
   ·rename_i hc;simp at hy;subst hy;exact .p _ _ (Bz _ (fun b _ hb=>CM hb) (fun b _ hs=>⟨CM,hs,rfl⟩) hr (Xr ho Zb) hc.1 hc.2 h)
   ·cases hy
  ·cases hy
 ·cases hy
theorem S1 {H} : ∀ {l l':List V},vws H l=some l'->l'.length=l.length/\ ∀(j:Nat) (y:V),l'[j]? =some y-> ∃x,l[j]? =some x/\vw H x=some y
 | [],l',h=>by simp [vws] at h;grind
 | x::l,l',h=>by
  simp only [vws] at h
  split at h
  ·rename_i y ys h1 h2;simp at h;subst h;obtain ⟨e,hg⟩:=S1 h2;refine ⟨by simp [e],fun j z hj=> ?_⟩
   cases j with
   | zero=>simp at hj;subst hj;exact ⟨x,Zb,h1⟩
   | succ j=>obtain ⟨q,q1,q2⟩:=hg j z (by simpa using hj);exact ⟨q,by simpa using q1,q2⟩
  ·cases h
theorem Good.lift {F H ι w H1 ι1 w'} (hr:Rel F H ι w) (g:Good AX [] [] w H1 ι1 w') (h1: ∀(o:Nat) (ob:Obj),H1[o]? =some ob-> ∃S xs,ob= .elems S xs/\MT xs=true):Good (Own F ι) [] [] w H1 ι1 w':=by
 have hnew: ∀b,some b∈ι1-> ¬b<w.heap.size:=fun b hb hlt=>g.own b hlt Zb hb
 have hold: ∀b,Own F ι b->b<w.heap.size:=fun b hb=>by
  rcases hb with hb | hb
  ·exact hr.fin b hb
  ·obtain ⟨i,hi⟩:=Xb.1 hb;exact (hr.avo i b hi).2
 refine Good.up hr.env.fresh ⟨⟨g.rel.len,fun b hb=>by have:=hold b hb;have:=g.size;omega,g.rel.inj,fun i b hi=> ?_,fun o cs ho=> ?_,fun o S xs ho=> ?_,fun o es ho=>(by grind),fun o T E r bs ho=>(by grind)⟩,g.os,g.tape,g.output,g.shape,g.size,g.keep,g.own,g.hx⟩
 ·refine ⟨fun hb=>hnew b (Xw hi) (hold b hb),(g.rel.avo i b hi).2⟩
 ·grind
 ·rcases g.rel.elm o S xs ho with e | ⟨b,c,t,cap,e1,e2,e3,e4,e5,e6,e7⟩
  ·exact .inl e
  ·refine .inr ⟨b,c,t,cap,e1,e2,e3,e4,e5,e6,fun i x j y hi hj=> ?_⟩;obtain ⟨S',xs',e,hf⟩:=h1 o _ ho;simp at e;obtain ⟨rfl,rfl⟩:=e;have hx:=Ak hf i x hi;refine (e7 i x j y hi hj).anywhere ?_
   cases x<;>simp only [PV.cells] at hj
   case agg cs=>grind [Ak,Pi]
   all_goals (cases j with
    | zero=>simp at hj;subst hj;exact hx
    | succ j=>simp at hj)
theorem Gf {w:World} (he:Env AX [] w):Rel AX [] [] w:=⟨⟨rfl,fun b hb=>hb.elim,fun i j b hi=>by simp at hi,fun i b hi=>by simp at hi,fun o cs ho=>by simp at ho,fun o S xs ho=>by simp at ho,fun o es ho=>by simp at ho,fun o T E r bs ho=>by simp at ho⟩,he⟩
theorem ACalls.view {P g args args'} {y:PV} {H:List Obj} {K:V->List Obj->Prop} (h:ACalls P g args' [] fun x H'=>x= .p y/\H'= []) (hv:vws H args=some args') (hy:Pi y=true) (k:K (.p y) H):ACalls P g args H K:=by
 refine ⟨h.1,fun F ι w vs hr hvs=> ?_⟩;obtain ⟨e,hg⟩:=S1 hv;refine (h.2 AX [] w vs (Gf hr.env.noth) ⟨by rw [hvs.1,e],fun j c hj=> ?_⟩).mono ?_
 ·obtain ⟨x,h1,h2⟩:=hg j c hj;exact ZjP hr (hvs.2 j x h1) h2
 ·rintro e w' ⟨x,H',ι',v,rfl,⟨rfl,rfl⟩,gd,rv⟩;have g2:=(gd.lift hr (fun o ob ho=>by simp at ho)).behind hr;have hι:ι'= []:=Yv gd.rel.len;subst hι;simp only [Zk,Yw] at g2
  cases rv with | p _ _ rp =>
  exact ⟨_,H,ι,v,rfl,k,g2,.p _ _ (rp.anywhere hy)⟩
def rd1 (H:List Obj):V->Option PV
 | .p x=>some x
 | .sl o off len tot=>match oat H o with
  | .elems _ xs=>if xs.length=tot/\off+len<=tot then some (.list false ((xs.take (off+len)).drop off)) else none
  | _=>none
 | _=>none
def rds (H:List Obj):List V->Option (List PV)
 | []=>some []
 | x::l=>match rd1 H x,rds H l with | some y,some ys=>some (y::ys) | _,_=>none
def rd (H:List Obj):V->Option PV
 | .agg cs=>(rds H cs).map .agg
 | x=>rd1 H x
@[go_sem] theorem Zk1 {o off len tot r} :QO (.sl o off len tot::r)=none:=Zm rfl rfl
attribute [go_sem] Option.map_none
end Go.AM
namespace Go.Proofs.YtjkkdmeebhjaiaaGreatDoor.K
open Go Go.AM
def Ed (be:List (Int×Int)) (a b:Nat):Prop:= ∃p∈be,p.1=(a:Int)/\p.2=(b:Int)
inductive Ch (be:List (Int×Int)):Nat->Nat->Prop where
 | one {a b} (h:Ed be a b):Ch be a b
 | more {a b c} (h:Ch be a b) (k:Ed be b c):Ch be a c
def Val (n:Nat) (be:List (Int×Int)):Prop:= ∀p∈be,0<=p.1/\p.1<n/\0<=p.2/\p.2<n
def Eh (out:List Nat) (p:Int×Int):List Nat:=out.set p.2.toNat (nth out p.2.toNat|||nth out p.1.toNat|||pw p.1.toNat)
def ES (out:List Nat) (be:List (Int×Int)):List Nat:=be.foldl Eh out
structure Snd (n:Nat) (be:List (Int×Int)) (out:List Nat):Prop where
 len:out.length=n
 lt: ∀b,b<n->nth out b<pw n
 snd: ∀a b,b<n->(nth out b).testBit a=true->Ch be a b
structure Clo (n:Nat) (be:List (Int×Int)) (out:List Nat):Prop extends Snd n be out where
 cmp: ∀a b,Ch be a b->(nth out b).testBit a=true
theorem EP (l:List Nat) (i j v:Nat) (h:j<l.length):nth (l.set i v) j=if i=j then v else nth l j:=by
 grind [nth]
theorem Snd.zero (n be):Snd n be (List.replicate n 0):=by
 refine ⟨Zb,fun b hb=> ?_,fun a b hb h=> ?_⟩
 ·grind [Zj,Ga]
 grind [Zj]
theorem Kl (a b:Nat):(pw a).testBit b=decide (a=b):=by grind [pw]
theorem Snd.step {n be out} (hv:Val n be) (hs:Snd n be out) {p} (hp:p∈be):Snd n be (Eh out p):=by
 obtain ⟨h1,h2,h3,h4⟩:=hv p hp;refine ⟨by simp [Eh,hs.len],fun b hb=> ?_,fun a b hb h=> ?_⟩
 ·rw [Eh,EP _ _ _ _ (by rw [hs.len];exact hb)]
  split
  ·have e1:=hs.lt p.2.toNat Za;have e2:=hs.lt p.1.toNat Za
   have e3:pw p.1.toNat<pw n:=by
    have:=EU p.1.toNat;have h5:pw (p.1.toNat+1)<=pw n:=Ks Za;omega
   exact Q1 (Q1 e1 e2) e3
  ·exact hs.lt b hb
 ·rw [Eh,EP _ _ _ _ (by rw [hs.len];exact hb)] at h
  split at h
  ·rename_i hb2;have hE:Ed be p.1.toNat b:=⟨p,hp,Za,Za⟩;simp only [Aw,W8] at h;rcases h with (h | h) | h
   ·exact hs.snd a b hb (by grind)
   ·exact (hs.snd a _ Za h).more hE
   ·rw [Kl] at h;simp at h;subst h;exact .one hE
  ·exact hs.snd a b hb h
theorem Snd.rnd {n be out} (hv:Val n be) (hs:Snd n be out): ∀(l:List (Int×Int)),(∀p∈l,p∈be)->Snd n be (ES out l):=by
 intro l
 induction l generalizing out with
 | nil=>intro _;exact hs
 | cons p l ih=>intro h;exact ih (hs.step hv (h p Zb)) fun q hq=>h q (by simp [hq])
theorem vP (x y:Nat):x<=x|||y:=Nat.left_le_or
def tot (l:List Nat):Nat:=l.foldr (· + ·) 0
theorem SX : ∀(l:List Nat) (i v:Nat),i<l.length->tot (l.set i v)+nth l i=tot l+v
 | [],i,v,h=>by simp at h
 | x::l,0,v,h=>by simp [tot,nth];omega
 | x::l,i+1,v,h=>by
  have:=SX l i v (by simpa using h);simp only [ZL,tot,List.foldr_cons,nth,List.getD_cons_succ] at this ⊢;omega
theorem mV : ∀(l:List Nat) (m:Nat),(∀i,i<l.length->nth l i<m)->tot l<=l.length*m
 | [],m,h=>by simp [tot]
 | x::l,m,h=>by
  have h0:=h 0 Zb
  have:=mV l m fun i hi=>by have:=h (i+1) (by grind);grind [nth]
  grind [tot,XB,nth]
theorem RL (out:List Nat) (p:Int×Int) (h:p.2.toNat<out.length):tot out<=tot (Eh out p)/\(tot (Eh out p)=tot out->Eh out p=out):=by
 have e:=SX out p.2.toNat (nth out p.2.toNat|||nth out p.1.toNat|||pw p.1.toNat) h;have h1:nth out p.2.toNat<=nth out p.2.toNat|||nth out p.1.toNat|||pw p.1.toNat:=JZ (vP _ _) (vP _ _);refine ⟨by rw [Eh];omega,fun he=> ?_⟩;rw [Eh] at he ⊢
 have:nth out p.2.toNat|||nth out p.1.toNat|||pw p.1.toNat=nth out p.2.toNat:=Za
 simp_all [Zj]
theorem PH (out l m):ES out (l++m)=ES (ES out l) m:=by grind [ES]
theorem CN {n be} (hv:Val n be): ∀(l:List (Int×Int)) (out:List Nat),(∀p∈l,p∈be)->Snd n be out->tot out<=tot (ES out l)/\(tot (ES out l)=tot out->ES out l=out/\ ∀p∈l,Eh out p=out)
 | [],out,_,_=>⟨ZF _,fun _=>⟨rfl,fun p hp=>by simp at hp⟩⟩
 | p::l,out,hl,hs=>by
  obtain ⟨h1,h2,h3,h4⟩:=hv p (hl p Zb);have c:=RL out p (by rw [hs.len];omega);have r:=CN hv l (Eh out p) (fun q hq=>hl q (by simp [hq])) (hs.step hv (hl p Zb));refine ⟨JZ c.1 r.1,fun e=> ?_⟩;have e:tot (ES (Eh out p) l)=tot out:=e
  have e1:tot (Eh out p)=tot out:=Za
  have e2:=c.2 e1
  have e3:tot (ES (Eh out p) l)=tot (Eh out p):=Za
  obtain ⟨e4,e5⟩:=r.2 e3;rw [e2] at e4 e5;refine ⟨by grind [ES],fun q hq=> ?_⟩
  grind
theorem Snd.clo {n be out} (hv:Val n be) (hs:Snd n be out) (h:tot (ES out be)=tot out):Clo n be out:=by
 have hc:=((CN hv be out (fun _ h=>h) hs).2 h).2
 have key: ∀p∈be,∀a,(a=p.1.toNat\/(nth out p.1.toNat).testBit a=true)->(nth out p.2.toNat).testBit a=true:=fun p hp a ha=>by
  obtain ⟨h1,h2,h3,h4⟩:=hv p hp;have e:=hc p hp
  have e2:nth (Eh out p) p.2.toNat=nth out p.2.toNat:=by rw [e]
  rw [Eh,EP _ _ _ _ (by rw [hs.len];omega)] at e2;simp only [if_true] at e2;rw [<- e2];simp only [Aw,W8,Kl,Zr]
  grind
 refine ⟨hs,fun a b hab=> ?_⟩
 induction hab with
 | one h =>
  obtain ⟨p,hp,e1,e2⟩:=h;have:=key p hp p.1.toNat (.inl rfl)
  grind
 | more _ h ih =>
  obtain ⟨p,hp,e1,e2⟩:=h;have:=key p hp _ (.inr (by rw [e1];exact ih))
  grind
theorem Clo.uniq {n be out out'} (hv:Val n be) (h:Clo n be out) (h':Clo n be out'):out=out':=by
 apply Qc (by rw [h.len,h'.len]);intro b h1 h2;rw [<- Zj h1,<- Zj h2];apply Cr;intro a;rw [Ww];rw [h.len] at h1;exact ⟨fun e=>h'.cmp a b (h.snd a b h1 e),fun e=>h.cmp a b (h'.snd a b h1 e)⟩
theorem Snd.bound {n be out} (hs:Snd n be out):tot out<=n*pw n:=by
 have:=mV out (pw n) fun i hi=>hs.lt i (by rw [<- hs.len];exact hi);rwa [hs.len] at this
theorem fR {n be} (hv:Val n be): ∀(k:Nat) (out:List Nat),Snd n be out->n*pw n-tot out<k-> ∃out',Clo n be out'
 | 0,out,_,h=>Za
 | k+1,out,hs,h=>by
  by_cases he:tot (ES out be)=tot out
  ·exact ⟨out,hs.clo hv he⟩
  ·have hp:=hs.rnd hv be fun _ h=>h;have:=hp.bound;have:=(CN hv be out (fun _ h=>h) hs).1;exact fR hv k (ES out be) hp Za
noncomputable def Ko (n:Nat) (be:List (Int×Int)):List Nat:=open Classical in if h: ∃out,Clo n be out then h.choose else []
theorem Fq {n be} (hv:Val n be):Clo n be (Ko n be):=by
 have h:=fR hv _ (List.replicate n 0) (Snd.zero n be) (Nat.lt_succ_self _);rw [Ko,dif_pos h]
 grind
theorem fQ {n be out} (hv:Val n be) (h:Clo n be out):Ko n be=out:=(Fq hv).uniq hv h
theorem UZ {n be} (hv:Val n be) (a b:Nat) (hb:b<n):(nth (Ko n be) b).testBit a=true↔Ch be a b :=
 ⟨(Fq hv).snd a b hb,(Fq hv).cmp a b⟩
end Go.Proofs.YtjkkdmeebhjaiaaGreatDoor.K
