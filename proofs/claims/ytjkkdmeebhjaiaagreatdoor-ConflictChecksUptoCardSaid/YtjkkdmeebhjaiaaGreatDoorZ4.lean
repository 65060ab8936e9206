/- Declarations that the closing texts need, part 4: joined by tools/slim.py. -/
import Derived.Test.YtjkkdmeebhjaiaaGreatDoorZ3
set_option linter.unusedVariables false
set_option linter.unusedSimpArgs false
universe u
namespace Go.AM
open Go.RowKit
structure Tk {α:Sort u} (a:α):Type where
def Zv {α:Sort u} (a:α) (_:Tk a):α:=a
@[go_sem] theorem ZfD {α β:Type} {f:α->β} {t x} :Zv f t x=f x:=Zm rfl rfl
@[go_sem ↓] theorem ZfE {α β:Type} {f:α->β->Prop} {t x y} :Zv f t x y=f x y:=Zm rfl rfl
@[go_sem ↓] theorem ZfF {α β γ:Type} {f:α->β->γ->Prop} {t x y z} :Zv f t x y z=f x y z:=Zm rfl rfl
def BM (x:Option V) (K:V->Prop):Prop:=match x with | some v=>K v | none=>False
def Bp (x:Option (V×List Obj)) (K:V->List Obj->Prop):Prop:=match x with | some (v,H)=>K v H | none=>False
def bst (x:V) (K:Bool->Prop):Prop:=match x with | .p (.bool b)=>K b | _=>False
def hst (x:Option (List Obj)) (K:List Obj->Prop):Prop:=match x with | some H=>K H | none=>False
@[go_sem ↓, go_sem] theorem ZkK {v K} :BM (some v) K=K v:=Zm rfl rfl
@[go_sem ↓, go_sem] theorem Zkq {v H K} :Bp (some (v,H)) K=K v H:=Zm rfl rfl
@[go_sem ↓, go_sem] theorem Zi2 {H K} :hst (some H) K=K H:=Zm rfl rfl
@[congr] theorem ZfW {x x' K} (h:x=x'):BM x K=BM x' K:=by rw [h]
@[congr] theorem ZfP {x x' K} (h:x=x'):Bp x K=Bp x' K:=by rw [h]
@[congr] theorem ZfI {x x' K} (h:x=x'):hst x K=hst x' K:=by rw [h]
def LD (fr:List V):List V:=fr
@[go_sem] theorem Zow {fr} :LD fr=fr:=Zm rfl rfl
section code
variable {cuts : List Nat} {P : Program} {fr : List V} {H : List Obj} {Q : Exit -> List V -> List Obj -> Prop}
@[go_sem ↓] theorem Zfr : JU cuts P .skip fr H Q=Q .normal fr H:=Zm rfl rfl
@[go_sem ↓] theorem xQ {id} {l:List Oper} :JU cuts P (.region id l.toArray false) fr H Q=YO P (l.map (·.dst)) l (LD fr) H (Zv (Q .normal) ⟨⟩):=by rfl
@[go_sem ↓] theorem Zaq {id ops} :JU cuts P (.region id ops true) fr H Q=AWP P (.region id (Zv ops ⟨⟩) true) fr H (Zv Q ⟨⟩):=by rfl
@[go_sem ↓] theorem Zin {x y} :JU [] P (.seq x y) fr H Q=JU [] P x fr H (QU (fun fr H=>JU [] P y fr H Q) Q):=by
 grind [JU]
def oK (b:Bool) (A B:Prop):Prop:=if b then A else B
def M7 (cuts:List Nat):Option Nat->Bool
 | some i=>cuts.contains i
 | none=>false
@[go_sem ↓] theorem Zfq {k x y} :JU (k::cuts) P (.seq x y) fr H Q=oK (M7 (k::cuts) (Nw x)) (Zv (AWP P (.seq (Zv x ⟨⟩) (Zv y ⟨⟩)) fr H (Zv Q ⟨⟩)) ⟨⟩) (Zv (JU (k::cuts) P x fr H (QU (fun fr H=>JU (k::cuts) P y fr H Q) Q)) ⟨⟩):=by
 rfl
@[go_sem ↓, go_sem] theorem ZfY {A B:Prop} {t} :oK true (Zv A t) B=A:=by rfl
@[go_sem ↓, go_sem] theorem Zd4 {A B:Prop} {t} :oK false A (Zv B t)=B:=by rfl
theorem Ru {b b' A B} (h:b=b'):oK b A B=oK b' A B:=by rw [h]
@[go_sem ↓] theorem ZaS {id ops d} :Nw (.region id ops d)=some id:=Zm rfl rfl
@[go_sem ↓] theorem ZmM {x y} :Nw (.seq x y)=Nw x:=Zm rfl rfl
@[go_sem ↓] theorem ZfC {id c} :Nw (.block id c)=Nw c:=Zm rfl rfl
@[go_sem ↓] theorem ZiX {c x y} :Nw (.cond c x y)=none:=Zm rfl rfl
@[go_sem ↓] theorem ZiZ {c} :Nw (.loop c)=none:=Zm rfl rfl
@[go_sem] theorem ZaG : M7 cuts none=false:=Zm rfl rfl
@[go_sem] theorem Zfw {i} :M7 [] (some i)=false:=Zm rfl rfl
@[go_sem] theorem ZaF {k i} :M7 (k::cuts) (some i)=(decide (i=k)||M7 cuts (some i)):=by rfl
@[go_sem ↓] theorem Zfm {c x y} :JU cuts P (.cond c x y) fr H Q=UP (ev fr c) (Zv (JU cuts P x fr H Q) ⟨⟩) (Zv (JU cuts P y fr H Q) ⟨⟩):=Zm rfl rfl
@[go_sem ↓] theorem Zap {id c} :JU cuts P (.block id c) fr H Q=JU cuts P c fr H (Q4 id Q):=Zm rfl rfl
@[go_sem ↓] theorem Zfn {id} :JU cuts P (.exit id) fr H Q=Q (.exit id) fr H:=Zm rfl rfl
@[go_sem ↓] theorem Zim : JU cuts P .ret fr H Q=Q .ret fr H:=Zm rfl rfl
@[go_sem ↓] theorem Zfp {c} :JU cuts P (.loop c) fr H Q=AWP P (.loop (Zv c ⟨⟩)) fr H (Zv Q ⟨⟩):=Zm rfl rfl
@[go_sem ↓] theorem Zfo {c t} :JU cuts P (Zv c t) fr H Q=JU cuts P c fr H Q:=Zm rfl rfl
theorem TW {c fr' H'} (h:fr=fr') (h2:H=H'):JU cuts P c fr H Q=JU cuts P c fr' H' Q:=by rw [h,h2]
theorem TC {c fr' H'} (h:fr=fr') (h2:H=H'):AWP P c fr H Q=AWP P c fr' H' Q:=by rw [h,h2]
@[go_sem ↓] theorem wH {A:List V->List Obj->Prop} :QU A Q .normal fr H=A fr H:=Zm rfl rfl
@[go_sem ↓] theorem Zed {A:List V->List Obj->Prop} {id} :QU A Q (.exit id) fr H=Q (.exit id) fr H:=Zm rfl rfl
@[go_sem ↓] theorem Zg9 {A:List V->List Obj->Prop} :QU A Q .ret fr H=Q .ret fr H:=Zm rfl rfl
@[go_sem ↓] theorem qA {id} :Q4 id Q .normal fr H=Q .normal fr H:=Zm rfl rfl
@[go_sem ↓] theorem Zat {id} :Q4 id Q .ret fr H=Q .ret fr H:=Zm rfl rfl
@[go_sem ↓] theorem xT {id id'} :Q4 id Q (.exit id') fr H=if id'=id then Q .normal fr H else Q (.exit id') fr H:=Zm rfl rfl
theorem OG {A:List V->List Obj->Prop} {e fr' H'} (h:fr=fr') (h2:H=H'):QU A Q e fr H=QU A Q e fr' H':=by rw [h,h2]
theorem Ld {id e fr' H'} (h:fr=fr') (h2:H=H'):Q4 id Q e fr H=Q4 id Q e fr' H':=by rw [h,h2]
@[go_sem ↓] theorem yS {rs} {Q:V->List Obj->Prop} :BO P rs Q .normal fr H=Bp ((Wz P fr H rs).map fun xs=>(Jh xs,H)) (Zv Q ⟨⟩):=by
 simp only [BO,Zv];grind [Bp]
@[go_sem ↓] theorem ZkP {rs} {Q:V->List Obj->Prop} :BO P rs Q .ret fr H=Bp ((Wz P fr H rs).map fun xs=>(Jh xs,H)) (Zv Q ⟨⟩):=by
 simp only [BO,Zv];grind [Bp]
theorem Rr {rs e fr' H'} {Q:V->List Obj->Prop} (h:fr=fr') (h2:H=H'):BO P rs Q e fr H=BO P rs Q e fr' H':=by rw [h,h2]
@[go_sem] theorem ZdY : Wz P fr H []=some []:=Zm rfl rfl
@[go_sem] theorem ZdZ {t l} :Wz P fr H (.tmp t::l)=(Wz P fr H l).map (gt fr t:: ·):=by
 simp only [Wz,cV];cases Wz P fr H l<;>rfl
@[go_sem] theorem yQ {a t l} :Wz P fr H (.cell a t::l)=(Jo P H t (gt fr a)).bind fun x=>(Wz P fr H l).map (x:: ·):=by
 simp only [Wz,cV];cases Jo P H t (gt fr a)<;>cases Wz P fr H l<;>rfl
@[go_sem] theorem Zd0 {x} :Jh [x]=x:=Zm rfl rfl
@[go_sem] theorem yR : Jh []= .tup []:=Zm rfl rfl
@[go_sem] theorem Rq {x y l} :Jh (x::y::l)= .tup (x::y::l):=Zm rfl rfl
end code
attribute [congr] Ru TW TC OG Ld Rr
@[go_sem] theorem ZmK {x:V} {l} :gt (x::l) 0=x:=Zm rfl rfl
@[go_sem] theorem ZmJ {x:V} {l n} :gt (x::l) (n+1)=gt l n:=Zm rfl rfl
@[go_sem] theorem Zot {n} :gt [] n= .junk:=Zm rfl rfl
@[go_sem] theorem Zm6 {x v:V} {l} :pt (x::l) 0 v=v::l:=Zm rfl rfl
@[go_sem] theorem Zm5 {x v:V} {l n} :pt (x::l) (n+1) v=x::pt l n v:=Zm rfl rfl
@[go_sem] theorem ZkM {fr d v} :Uz fr (some d) v=pt fr d v:=Zm rfl rfl
@[go_sem] theorem ZkL {fr v} :Uz fr none v=fr:=Zm rfl rfl
@[go_sem] theorem Zkv {x:Obj} {l} :oat (x::l) 0=x:=Zm rfl rfl
@[go_sem] theorem Zku {x:Obj} {l n} :oat (x::l) (n+1)=oat l n:=Zm rfl rfl
@[go_sem] theorem ZkF {x v:Obj} {l} :Gi (x::l) 0 v=v::l:=Zm rfl rfl
@[go_sem] theorem ZkE {x v:Obj} {l n} :Gi (x::l) (n+1) v=x::Gi l n v:=Zm rfl rfl
@[go_sem] theorem Zmz {fr t} :evx fr (.tmp t)=gt fr t:=Zm rfl rfl
@[go_sem] theorem ZaM {fr g} :evx fr (.global g)=kE g:=Zm rfl rfl
@[go_sem] theorem Zoi {fr t} :ev fr (.tmp t)=gt fr t:=Zm rfl rfl
@[go_sem] theorem Zmw {fr f} :ev fr (.func f)= .fn (.func f) [] []:=Zm rfl rfl
@[go_sem] theorem Zog {fr k n} :ev fr (.const (.int k n))= .p (.int k n):=Zm rfl rfl
@[go_sem] theorem Zmv {fr b} :ev fr (.const (.bool b))= .p (.bool b):=Zm rfl rfl
@[go_sem] theorem Zoh {fr s} :ev fr (.const (.string s))= .p (.str s.data.toList):=Zm rfl rfl
@[go_sem] theorem Zmy {fr} :ev fr (.const (.slice none 0 0))= .p (.list true []):=Zm rfl rfl
@[go_sem] theorem Zmx {fr} :ev fr (.const (.pointer none))= .p .nilp:=Zm rfl rfl
@[go_sem] theorem Zof {fr l} :ev fr (.const (.agg (List.toArray l)))=match cvs l with | some xs=> .p (.agg xs) | none=> .junk:=Zm rfl rfl
@[go_sem] theorem ZiR {fr d} {l:List (Option Nat)} :FV fr (some d::l) 0=gt fr d:=by simp [FV]
@[go_sem] theorem ZiQ {fr o n} {l:List (Option Nat)} :FV fr (o::l) (n+1)=FV fr l n:=by simp [FV]
section ops
variable {P : Program} {fr : List V} {H : List Obj} {ds : List (Option Nat)} {K : List V -> List Obj -> Prop} {r : List Oper} {d : Option Nat} {t : TypeId} {ps : String} {af : Array Edge} {g : Option (Nat × Bool)} {k : V -> List Obj -> Prop}
theorem Pb {l fr' H'} (h:fr=fr') (h2:H=H'):YO P ds l fr H K=YO P ds l fr' H' K:=by rw [h,h2]
theorem MP {o fr' H'} (h:fr=fr') (h2:H=H'):Zy P o fr H k=Zy P o fr' H' k:=by rw [h,h2]
@[go_sem ↓] theorem Zib : YO P ds [] fr H K=K fr H:=Zm rfl rfl
@[go_sem] theorem Ze6 {op} :YO P ds (⟨d,op,t,ps,af,none⟩::r) fr H K=Zy P ⟨d,op,t,ps,af,none⟩ fr H (Zv (fun x H'=>YO P ds r (Uz fr d x) H' K) ⟨⟩):=Zm rfl rfl
@[go_sem] theorem zR {op j b} :YO P ds (⟨d,op,t,ps,af,some (j,b)⟩::r) fr H K=XU (FV fr ds j) b (Zv (Zy P ⟨d,op,t,ps,af,none⟩ fr H (Zv (fun x H'=>YO P ds r (Uz fr d x) H' K) ⟨⟩)) ⟨⟩) (Zv (YO P ds r (Uz fr d (.tup [])) H K) ⟨⟩):=by
 rfl
theorem XV {op:Op} (h:Wh op=none) (h2:Vd P op fr H=none):Zy P ⟨d,op,t,ps,af,g⟩ fr H k=BM (Xh P op fr H) fun x=>k x H:=by
 simp only [Zy,h,Mx,h2]
 all_goals (cases Xh P op fr H<;>rfl)
theorem TU {op:Op} (h:Wh op=none) (h2:Xh P op fr H=none):Zy P ⟨d,op,t,ps,af,g⟩ fr H k=Bp (Vd P op fr H) k:=by
 grind [Zy,Mx,Bp]
@[go_sem ↓] theorem Zak {x} :Zy P ⟨d,.move x,t,ps,af,g⟩ fr H k=k (ev fr x) H:=by rfl
@[go_sem ↓] theorem rN {x} :Zy P ⟨d,.assign x,t,ps,af,g⟩ fr H k=k (ev fr x) H:=by rfl
def vif (b:Bool) (x y:V):V:=if b then x else y
@[go_sem] theorem ZlJ {x y} :vif true x y=x:=Zm rfl rfl
@[go_sem] theorem Zha {x y} :vif false x y=y:=Zm rfl rfl
@[go_sem] theorem ZlI {b x y} :vif b (.p (.bool x)) (.p (.bool y))= .p (.bool (if b then x else y)):=by cases b<;>rfl
@[go_sem] theorem Zig {b} :asB (.p (.bool b))=some b:=Zm rfl rfl
@[go_sem ↓] theorem Zam {c x y} :Zy P ⟨d,.pick c x y,t,ps,af,g⟩ fr H k=BM ((asB (ev fr c)).map fun b=>vif b (ev fr x) (ev fr y)) (Zv (fun v=>k v H) ⟨⟩):=by
 rw [XV rfl rfl];simp only [Xh,Yh]
 cases asB (ev fr c)<;>rfl
@[go_sem ↓] theorem Zaj {u x} :Zy P ⟨d,.load u x,t,ps,af,g⟩ fr H k=BM (Jo P H u (ev fr x)) (Zv (fun v=>k v H) ⟨⟩):=by rw [XV rfl rfl];rfl
@[go_sem ↓] theorem gD {x} :Zy P ⟨d,.nilCheck x,t,ps,af,g⟩ fr H k=BM (if WA H (ev fr x)||kU (ev fr x) then some (ev fr x) else none) (Zv (fun v=>k v H) ⟨⟩):=by rw [XV rfl rfl];rfl
@[go_sem ↓] theorem Zff {op u x y u2} :Zy P ⟨d,.binOp op u x y u2,t,ps,af,g⟩ fr H k=BM ((Yp P op u (ev fr x) (ev fr y)).map .p) (Zv (fun v=>k v H) ⟨⟩):=by rw [XV rfl rfl];rfl
@[go_sem ↓] theorem Zik {op u x} :Zy P ⟨d,.unOp op u x,t,ps,af,g⟩ fr H k=BM ((aun op (ev fr x)).map .p) (Zv (fun v=>k v H) ⟨⟩):=by rw [XV rfl rfl];rfl
def mC (x y:Option PV):Option PV:=match x with | some z=>some z | none=>y
@[go_sem] theorem ZdD {z y} :mC (some z) y=some z:=Zm rfl rfl
@[go_sem] theorem ZdC {y} :mC none y=y:=Zm rfl rfl
@[go_sem ↓] theorem Zai {s u x} :Zy P ⟨d,.convert s u x,t,ps,af,g⟩ fr H k=BM ((mC (Dr P H s u (ev fr x)) (MD P s u (ev fr x))).map .p) (Zv (fun v=>k v H) ⟨⟩):=by
 rw [XV rfl rfl];simp only [Xh,Yh]
 cases Dr P H s u (ev fr x)<;>rfl
@[go_sem ↓] theorem gC {f cs es} :Zy P ⟨d,.makeFunc f (List.toArray cs) (List.toArray es),t,ps,af,g⟩ fr H k=k (.fn f (cs.map (ev fr)) (es.map (ev fr))) H:=by rfl
@[go_sem ↓] theorem xO {u x lo hi mx} :Zy P ⟨d,.slice u x lo hi mx,t,ps,af,g⟩ fr H k=BM (Vl P H u fr (ev fr x) lo hi mx) (Zv (fun v=>k v H) ⟨⟩):=by rw [XV rfl rfl];rfl
@[go_sem ↓] theorem eJ {s x f} :Zy P ⟨d,.fieldAddr s x f,t,ps,af,g⟩ fr H k=BM (JQ P H s f (ev fr x)) (Zv (fun v=>k v H) ⟨⟩):=by rw [XV rfl rfl];rfl
@[go_sem ↓] theorem eK {u x i} :Zy P ⟨d,.indexAddr u x i,t,ps,af,g⟩ fr H k=BM (QY P H u (evx fr x) (ev fr i)) (Zv (fun v=>k v H) ⟨⟩):=by rw [XV rfl rfl];rfl
@[go_sem ↓] theorem xN {u x i} :Zy P ⟨d,.index u x i,t,ps,af,g⟩ fr H k=BM (MF P u (ev fr x) (ev fr i)) (Zv (fun v=>k v H) ⟨⟩):=by rw [XV rfl rfl];rfl
def axt (x:V) (i:Nat):Option V:=match x with | .tup vs=>vs[i]? | _=>none
@[go_sem] theorem Zmd {vs i} :axt (.tup vs) i=vs[i]? :=Zm rfl rfl
@[go_sem ↓] theorem pY {x i} :Zy P ⟨d,.extract x i,t,ps,af,g⟩ fr H k=BM (axt (ev fr x) i) (Zv (fun v=>k v H) ⟨⟩):=by
 rw [XV rfl rfl]
 rfl
@[go_sem ↓] theorem xM {u l} :Zy P ⟨d,.build u (List.toArray l),t,ps,af,g⟩ fr H k=BM (Fj P H u (l.map fun x=>(x.1,ev fr x.2))) (Zv (fun v=>k v H) ⟨⟩):=by rw [XV rfl rfl];rfl
@[go_sem ↓] theorem Zfh {x u} :Zy P ⟨d,.call ⟨.builtin .len,#[x],#[u]⟩,t,ps,af,g⟩ fr H k=BM ((fR P H u (ev fr x)).map .p) (Zv (fun v=>k v H) ⟨⟩):=by rw [XV rfl rfl];rfl
@[go_sem ↓] theorem Zfi {x y us} :Zy P ⟨d,.call ⟨.builtin .max,#[x,y],us⟩,t,ps,af,g⟩ fr H k=BM ((I0 false [ev fr x,ev fr y]).map .p) (Zv (fun v=>k v H) ⟨⟩):=by
 rw [XV rfl rfl];rfl
@[go_sem ↓] theorem xL {u} :Zy P ⟨d,.alloc u,t,ps,af,g⟩ fr H k=Bp ((Xl P u).map fun zs=>(.ptr H.length 0,H++ [.cells (zs.map .p)])) (Zv k ⟨⟩):=by rfl
@[go_sem ↓] theorem Zfg {u x} :Zy P ⟨d,.box u x,t,ps,af,g⟩ fr H k=Bp ((vc H (ev fr x)).map fun cs=>(.ptr H.length 0,H++ [.cells cs])) (Zv k ⟨⟩):=by rfl
def Zao (H:List Obj) (n:Option Nat) (a:V) (cs:Option (List V)):Option (List Obj):=n.bind fun n=>cs.bind fun cs=>By H n a cs
@[go_sem] theorem Zfk {n a cs} :Zao H (some n) a (some cs)=By H n a cs:=Zm rfl rfl
@[go_sem ↓] theorem xP {u x y} :Zy P ⟨d,.store u x y,t,ps,af,g⟩ fr H k=hst (Zao H (Y9 P u) (ev fr x) (vc H (ev fr y))) (Zv (k .junk) ⟨⟩):=by
 rw [TU rfl rfl];simp only [Vd,Zao]
 cases Y9 P u<;>cases vc H (ev fr y)<;>simp [hst,Bp,Zv]
 grind
@[go_sem ↓] theorem TT {u n l} :Zy P ⟨d,.buildSlice u n (List.toArray l),t,ps,af,g⟩ fr H k=Bp (Vd P (.buildSlice u n (List.toArray l)) fr H) (Zv k ⟨⟩):=by rfl
@[go_sem ↓] theorem pZ {u} :Zy P ⟨d,.makeMap u none,t,ps,af,g⟩ fr H k=k (.mp H.length) (H++ [.map []]):=by rfl
@[go_sem ↓] theorem rO {u x y ok} :Zy P ⟨d,.lookup u x y ok,t,ps,af,g⟩ fr H k=Bp (B6 P H u (ev fr x) (ev fr y) ok) (Zv k ⟨⟩):=by rfl
@[go_sem ↓] theorem Zal {u x y z} :Zy P ⟨d,.mapUpdate u x y z,t,ps,af,g⟩ fr H k=Bp (Ee P H u (ev fr x) (ev fr y) (ev fr z)) (Zv k ⟨⟩):=by rfl
@[go_sem ↓] theorem eL {u x y} :Zy P ⟨d,.makeSlice u x y,t,ps,af,g⟩ fr H k=Bp (Vd P (.makeSlice u x y) fr H) (Zv k ⟨⟩):=by rfl
@[go_sem ↓] theorem rM {x y u u2} :Zy P ⟨d,.call ⟨.builtin .append,#[x,y],#[u,u2]⟩,t,ps,af,g⟩ fr H k=Bp (Vc P H u u2 (ev fr x) (ev fr y)) (Zv k ⟨⟩):=by rfl
@[go_sem ↓] theorem Zah {f azs ts} :Zy P ⟨d,.call ⟨.value f,List.toArray azs,ts⟩,t,ps,af,g⟩ fr H k=Ec P (ev fr f) (azs.map (ev fr)) H (Zv k ⟨⟩):=Zm rfl rfl
@[go_sem ↓] theorem Zh0 {f fs cs azs} :Ec P (.fn (.func f) fs cs) azs H k=ACalls P f (fs++azs++cs) H k:=Zm rfl rfl
@[go_sem ↓] theorem ZeG {f azs} :Ec P (.p (.fn f)) azs H k=ACalls P f azs H k:=Zm rfl rfl
theorem MB {f f' azs as'} (h:f=f') (h2:azs=as'):Ec P f azs H k=Ec P f' as' H k:=by rw [h,h2]
theorem IR {f azs as' H'} (h2:azs=as') (h3:H=H'):ACalls P f azs H k=ACalls P f as' H' k:=by rw [h2,h3]
theorem MC {x x' A B} (h:x=x'):UP x A B=UP x' A B:=by rw [h]
theorem IX {x x' b A B} (h:x=x'):XU x b A B=XU x' b A B:=by rw [h]
@[go_sem ↓, go_sem] theorem zF {A:Prop} {t B'} :UP (.p (.bool true)) (Zv A t) B'=A:=by simp [UP,Zv]
@[go_sem ↓, go_sem] theorem wZ {B:Prop} {t B'} :UP (.p (.bool false)) B' (Zv B t)=B:=by simp [UP,Zv]
@[go_sem ↓, go_sem] theorem ZeS {A:Prop} {t B} :XU (.p (.bool true)) true (Zv A t) B=A:=by simp [XU,Zv]
@[go_sem ↓, go_sem] theorem ZeR {B:Prop} {t A} :XU (.p (.bool true)) false A (Zv B t)=B:=by simp [XU,Zv]
@[go_sem ↓, go_sem] theorem ZeQ {B:Prop} {t A} :XU (.p (.bool false)) true A (Zv B t)=B:=by simp [XU,Zv]
@[go_sem ↓, go_sem] theorem ZeP {A:Prop} {t B} :XU (.p (.bool false)) false (Zv A t) B=A:=by simp [XU,Zv]
@[go_sem ↓, go_sem] theorem xB {b} {B:Prop} {t A} :XU (.tup []) b A (Zv B t)=B:=by rfl
theorem QF {c:Bool} {A B:Prop} {t t'} (h1:c=true->A) (h2:c=false->B):UP (.p (.bool c)) (Zv A t) (Zv B t'):=⟨h1,h2⟩
theorem Uk {c:Bool} {A B:Prop} {t t'} (h1:c=true->A) (h2:c=false->B):XU (.p (.bool c)) true (Zv A t) (Zv B t'):=⟨h1,fun h=>h2 (by simpa using h)⟩
theorem Qg {c:Bool} {A B:Prop} {t t'} (h1:c=true->B) (h2:c=false->A):XU (.p (.bool c)) false (Zv A t) (Zv B t'):=⟨h2,fun h=>h1 (by simpa using h)⟩
theorem Zd {P Q:Prop} (h:Q) (e:Q->P:=by intro h;simp (disch:=omega) only [go_sem,seval];exact h):P:=e h
class Dc (c:Bool) (p q:outParam Prop):Prop where
 t:c=true->p
 f:c=false->q
instance dcD {p : Prop} [Decidable p] : Dc (decide p) p (¬p) := ⟨AH, of_decide_eq_false⟩
instance (priority := low) dcB {c : Bool} : Dc c (c = true) (c = false) := ⟨id, id⟩
theorem cD {c:Bool} {A B p q:Prop} {t t'} [d:Dc c p q] (h1:p->A) (h2:q->B):UP (.p (.bool c)) (Zv A t) (Zv B t'):=QF (fun h=>h1 (d.t h)) (fun h=>h2 (d.f h))
theorem gT {c:Bool} {A B p q:Prop} {t t'} [d:Dc c p q] (h1:p->A) (h2:q->B):XU (.p (.bool c)) true (Zv A t) (Zv B t'):=Uk (fun h=>h1 (d.t h)) (fun h=>h2 (d.f h))
theorem gF {c:Bool} {A B p q:Prop} {t t'} [d:Dc c p q] (h1:p->B) (h2:q->A):XU (.p (.bool c)) false (Zv A t) (Zv B t'):=Qg (fun h=>h1 (d.t h)) (fun h=>h2 (d.f h))
@[go_sem] theorem Zm1 {p:Prop} [Decidable p]:(!decide p)=decide (¬p):=Zb
end ops
attribute [congr] Pb MP MB IR MC IX
section vals
variable {P : Program} {H : List Obj} {k : IntKind} {t u : TypeId}
@[go_sem] theorem ZhP {a b} :Yp P .add t (.p (.int k a)) (.p (.int k b))=some (.int k (k.wrap (a+b))):=by simp [Yp,Q9]
@[go_sem] theorem ZhZ {a b} :Yp P .sub t (.p (.int k a)) (.p (.int k b))=some (.int k (k.wrap (a-b))):=by simp [Yp,Q9]
@[go_sem] theorem fF {a b} :Yp P .mul t (.p (.int k a)) (.p (.int k b))=some (.int k (k.wrap (a*b))):=by simp [Yp,Q9]
@[go_sem] theorem fH {a b} (h:b≠0):Yp P .quo t (.p (.int k a)) (.p (.int k b))=some (.int k (k.wrap (a.tdiv b))):=by simp [Yp,Q9,h]
@[go_sem] theorem ZhX {a b} (h:b≠0):Yp P .rem t (.p (.int k a)) (.p (.int k b))=some (.int k (a.tmod b)):=by simp [Yp,Q9,h]
@[go_sem] theorem fE {a b} :Yp P .and t (.p (.int k a)) (.p (.int k b))=some (.int k (k.wrap ((BitVec.ofInt k.bits a&&&BitVec.ofInt k.bits b).toNat:Int))):=by simp [Yp,Q9]
@[go_sem] theorem RN {a b} :Yp P .or t (.p (.int k a)) (.p (.int k b))=some (.int k (k.wrap ((BitVec.ofInt k.bits a|||BitVec.ofInt k.bits b).toNat:Int))):=by simp [Yp,Q9]
@[go_sem] theorem wX {a b} :Yp P .andNot t (.p (.int k a)) (.p (.int k b))=some (.int k (k.wrap ((BitVec.ofInt k.bits a&&& ~~~(BitVec.ofInt k.bits b)).toNat:Int))):=by simp [Yp,Q9]
@[go_sem] theorem ZhR {a b} :Yp P .eql t (.p (.int k a)) (.p (.int k b))=some (.bool (decide (a=b))):=by simp [Yp,Q9]
@[go_sem] theorem ZhW {a b} :Yp P .neq t (.p (.int k a)) (.p (.int k b))=some (.bool (decide (¬a=b))):=by simp [Yp,Q9]
@[go_sem] theorem ZhV {a b} :Yp P .lss t (.p (.int k a)) (.p (.int k b))=some (.bool (decide (a<b))):=by simp [Yp,Q9]
@[go_sem] theorem ZhU {a b} :Yp P .leq t (.p (.int k a)) (.p (.int k b))=some (.bool (decide (a<=b))):=by simp [Yp,Q9]
@[go_sem] theorem ZhT {a b} :Yp P .gtr t (.p (.int k a)) (.p (.int k b))=some (.bool (decide (b<a))):=by simp [Yp,Q9]
@[go_sem] theorem ZhS {a b} :Yp P .geq t (.p (.int k a)) (.p (.int k b))=some (.bool (decide (b<=a))):=by simp [Yp,Q9]
@[go_sem] theorem fI {a b k'} (h:0<=b):Yp P .shl t (.p (.int k a)) (.p (.int k' b))=some (.int k (k.wrap (a*2^(min b.toNat k.bits)))):=by grind [Yp,Q9]
@[go_sem] theorem fJ {a b k'} (h:0<=b):Yp P .shr t (.p (.int k a)) (.p (.int k' b))=some (.int k (a.fdiv (2^(min b.toNat k.bits)))):=by grind [Yp,Q9]
@[go_sem] theorem ZhY {op a b} :Yp P op t (.p (.str a)) (.p (.str b))=Mh op a b:=Zm rfl rfl
@[go_sem] theorem ZkS {a b} :Mh .eql a b=some (.bool (decide (a=b))):=Zm rfl rfl
@[go_sem] theorem ZkT {a b} :Mh .neq a b=some (.bool (decide (¬a=b))):=by simp [Mh]
@[go_sem] theorem oI {a b} (h:a.length+b.length<=9223372036854775807):Mh .add a b=some (.str (a++b)):=by simp [Mh,h]
def Zio (op:BinOp) (u:Option TypeDesc) (a b:Bool):Option PV:=match op,u with
  | .eql,some .bool=>some (.bool (a==b))
  | .neq,some .bool=>some (.bool (!(a==b)))
  | _,_=>none
end vals
attribute [irreducible] BM Bp hst bst
end Go.AM
namespace Go.AM
open Go.RowKit
section vals
variable {P : Program} {H : List Obj} {k : IntKind} {t u : TypeId}
@[go_sem] theorem ZeB {op a b} :Yp P op t (.p (.bool a)) (.p (.bool b))=Zio op (P.underlying t) a b:=Zm rfl rfl
@[go_sem] theorem Ziq {a b} :Zio .eql (some .bool) a b=some (.bool (a==b)):=Zm rfl rfl
def ZaO (g:Bool) (op:BinOp) (r:Option Bool):Option PV:=if g then none else match op with
 | .eql=>r.map .bool
 | .neq=>r.map fun r=> .bool (!r)
 | _=>none
@[go_sem] theorem ZhQ {op a b} :Yp P op t (.p (.agg a)) (.p (.agg b))=ZaO (P.eqGuardType P.depth t) op (Wu P 9 t (.agg a) (.agg b)):=Zm rfl rfl
@[go_sem] theorem ZiS {b} :ZaO false .eql (some b)=some (.bool b):=Zm rfl rfl
@[go_sem] theorem ZiT {b} :ZaO false .neq (some b)=some (.bool (!b)):=Zm rfl rfl
def Bv (P:Program) (d:Nat) (t:TypeId) (D:Option TypeDesc) (x y:PV):Option Bool:=match D,x,y with
  | some .bool,.bool a,.bool b=>some (a==b)
  | some (.int _),.int k a,.int k' b=>if k=k' then some (decide (a=b)) else none
  | some .string,.str a,.str b=>some (decide (a=b))
  | some (.struct fs),.agg a,.agg b=>if P.stoodInHeld t then none else B1 (Wu P d) P fs.toList a b
  | some (.array n e),.agg a,.agg b=>match Y9 P e with | some m=>Ds (Wu P d e) P e m n 0 a b | none=>none
  | _,_,_=>none
@[go_sem] theorem ZeM {d x y} :Wu P (d+1) t x y=Bv P d t (P.underlying t) x y:=Zm rfl rfl
@[go_sem] theorem ZeL {d a b} :Bv P d t (some .bool) (.bool a) (.bool b)=some (a==b):=Zm rfl rfl
@[go_sem] theorem Zh2 {d k0 a b} :Bv P d t (some (.int k0)) (.int k a) (.int k b)=some (decide (a=b)):=by simp [Bv]
theorem Vx {d fs a b} (h:P.stoodInHeld t=false):Bv P d t (some (.struct fs)) (.agg a) (.agg b)=B1 (Wu P d) P fs.toList a b:=by simp [Bv,h]
theorem O6 {d n e m a b} (h:Y9 P e=some m):Bv P d t (some (.array n e)) (.agg a) (.agg b)=Ds (Wu P d e) P e m n 0 a b:=by simp [Bv,h]
def JC (x y:Option Bool):Option Bool:=x.bind fun p=>y.map fun q=>p&&q
@[go_sem] theorem ZfT {p q} :JC (some p) (some q)=some (p&&q):=Zm rfl rfl
def HH (f:PV->PV->Option Bool) (x y:Option PV):Option Bool:=x.bind fun x=>y.bind fun y=>f x y
@[go_sem] theorem ZiJ {f x y} :HH f (some x) (some y)=f x y:=Zm rfl rfl
@[go_sem] theorem Jm {f a b} :B1 f P [] a b=some true:=Zm rfl rfl
@[go_sem] theorem U8 {f fi r a b} : B1 f P (fi :: r) a b = if fi.name = "_" then B1 f P r a b else JC (HH (f fi.type) (apart P fi.type a fi.offset) (apart P fi.type b fi.offset)) (B1 f P r a b) := by
 simp only [B1]
 split
 ·rfl
 ·cases apart P fi.type a fi.offset<;>cases apart P fi.type b fi.offset<;>simp [HH,JC]
  rename_i x y
  cases f fi.type x y<;>cases B1 f P r a b<;>rfl
@[go_sem] theorem ZeK {f e n i a b} :Ds f P e n 0 i a b=some true:=Zm rfl rfl
@[go_sem] theorem ZeJ {f e n i m a b} :Ds f P e n (m+1) i a b=JC (HH f (apart P e a (i*n)) (apart P e b (i*n))) (Ds f P e n m (i+1) a b):=by
 simp only [Ds]
 cases apart P e a (i*n)<;>cases apart P e b (i*n)<;>simp [HH,JC]
 rename_i x y
 cases f x y<;>cases Ds f P e n m (i+1) a b<;>rfl
def Zid (g:Option Bool) (s:Option Nat) (cs:List PV) (off:Nat):Option PV:=match g,s with
 | some true,some n=>if off+n<=cs.length then some (.agg ((cs.drop off).take n)) else none
 | some false,_=>cs[off]?
 | _,_=>none
@[go_sem] theorem Zic {cs off} :apart P t cs off=Zid (XQ P t) (Y9 P t) cs off:=Zm rfl rfl
@[go_sem] theorem Zie {s cs off} :Zid (some false) s cs off=cs[off]? :=Zm rfl rfl
def O8 (g:Option Bool) (s:Option Nat) (H:List Obj) (x:V):Option V:=match g,s with
 | some true,some n=>(UB H x n).map mkA
 | some false,_=>match UB H x 1 with
  | some (c::_)=>some c
  | _=>none
 | _,_=>none
def hdO (x:Option (List V)):Option V:=match x with | some (c::_)=>some c | _=>none
@[go_sem] theorem ZiW {c l} :hdO (some (c::l))=some c:=Zm rfl rfl
@[go_sem] theorem Zh7 {x} :Jo P H t x=O8 (XQ P t) (Y9 P t) H x:=Zm rfl rfl
@[go_sem] theorem zQ {s x} :O8 (some false) s H x=hdO (UB H x 1):=by rfl
@[go_sem] theorem zP {n x} :O8 (some true) (some n) H x=(UB H x n).map mkA:=Zm rfl rfl
@[go_sem] theorem ZeI {x j n} :UB H (.lp x j) n=if j+n<=x.cells.length then some (((x.cells.drop j).take n).map .p) else none:=Zm rfl rfl
def mX (ob:Obj) (off n:Nat):Option (List V):=match ob with | .cells cs=>if off+n<=cs.length then some ((cs.drop off).take n) else none | _=>none
@[go_sem] theorem zD {o off n} :UB H (.ptr o off) n=mX (oat H o) off n:=Zm rfl rfl
@[go_sem] theorem uU {cs off n} :mX (.cells cs) off n=if off+n<=cs.length then some ((cs.drop off).take n) else none:=Zm rfl rfl
def iY (ob:Obj) (i j tot n:Nat):Option (List V):=match ob with
 | .elems _ xs=>if xs.length=tot/\i<xs.length/\j+n<=(KO xs i).cells.length then some ((((KO xs i).cells.drop j).take n).map .p) else none
 | _=>none
@[go_sem] theorem ZeH {o i j tot n} :UB H (.ep o i j tot) n=iY (oat H o) i j tot n:=Zm rfl rfl
@[go_sem] theorem sN {S xs i j tot n} :iY (.elems S xs) i j tot n=if xs.length=tot/\i<xs.length/\j+n<=(KO xs i).cells.length then some ((((KO xs i).cells.drop j).take n).map .p) else none:=Zm rfl rfl
@[go_sem] theorem Zfs {cs} :(PV.agg cs).cells=cs:=Zm rfl rfl
@[go_sem] theorem Zfu {n} :(PV.int k n).cells= [.int k n]:=Zm rfl rfl
@[go_sem] theorem Zaw {b} :(PV.bool b).cells= [.bool b]:=Zm rfl rfl
@[go_sem] theorem Zfv {s} :(PV.str s).cells= [.str s]:=Zm rfl rfl
@[go_sem] theorem Zax {c xs} :(PV.list c xs).cells= [.list c xs]:=Zm rfl rfl
@[go_sem] theorem Zm3 {n} :(PV.int k n).one=true:=Zm rfl rfl
@[go_sem] theorem ZkC {b} :(PV.bool b).one=true:=Zm rfl rfl
@[go_sem] theorem Zm4 {s} :(PV.str s).one=true:=Zm rfl rfl
@[go_sem] theorem ZkD {c xs} :(PV.list c xs).one=true:=Zm rfl rfl
@[go_sem] theorem ZoM {cs} :mkA cs=match QZ cs with | some ps=> .p (.agg ps) | none=> .agg cs:=Zm rfl rfl
@[go_sem] theorem Zh6 : QZ []=some []:=Zm rfl rfl
@[go_sem] theorem ZeY {x r} :QZ (.p x::r)=(QZ r).map (x:: ·):=by rfl
def EF (n:Option Nat) (a:Bool) (x:V):Option V:=match n with | some n=>if a then some (B7 n x) else none | none=>none
@[go_sem] theorem ZeN {s f x} :JQ P H s f x=EF (ZW P s f) (WA H x) x:=Zm rfl rfl
@[go_sem] theorem qK {n x} :EF (some n) true x=some (B7 n x):=Zm rfl rfl
@[go_sem] theorem Zia {n x j} :B7 n (.lp x j)= .lp x (j+n):=Zm rfl rfl
@[go_sem] theorem Ze3 {n o off} :B7 n (.ptr o off)= .ptr o (off+n):=Zm rfl rfl
@[go_sem] theorem Zh9 {n o i j tot} :B7 n (.ep o i j tot)= .ep o i (j+n) tot:=Zm rfl rfl
def SA (ob:Obj):Bool:=match ob with | .cells _=>true | _=>false
@[go_sem] theorem qC {cs} :SA (.cells cs)=true:=Zm rfl rfl
def SB (ob:Obj) (tot:Nat):Bool:=match ob with | .elems _ xs=>decide (xs.length=tot) | _=>false
@[go_sem] theorem qD {S xs tot} :SB (.elems S xs) tot=decide (xs.length=tot):=Zm rfl rfl
def SE (ob:Obj) (tot:Nat):Bool:=match ob with | .elems _ xs=>decide (xs.length=tot) | .cells _=>true | _=>false
@[go_sem] theorem yE {S xs tot} :SE (.elems S xs) tot=decide (xs.length=tot):=Zm rfl rfl
@[go_sem] theorem yD {cs tot} :SE (.cells cs) tot=true:=Zm rfl rfl
@[go_sem] theorem Zh5 {x j} :WA H (.lp x j)=true:=Zm rfl rfl
@[go_sem] theorem zN {o off} :WA H (.ptr o off)=SA (oat H o):=Zm rfl rfl
@[go_sem] theorem Zh4 {o i j tot} :WA H (.ep o i j tot)=SB (oat H o) tot:=Zm rfl rfl
def UW (e:Option (Option Nat×Nat)) (H:List Obj) (x i:V):Option V:=match e,i with
 | some (none,S),.p (.int _ n)=>match x with
  | .p (.list _ xs)=>if 0<=n/\n<xs.length then (if (KO xs n.toNat).cells.length=S then some (.lp (KO xs n.toNat) 0) else none) else none
  | .sl o off len tot=>match oat H o with
   | .elems S' xs=>if xs.length=tot/\S'=S then (if 0<=n/\n<len then some (.ep o (off+n.toNat) 0 tot) else none) else none
   | .cells _=>if S=1/\off=0/\len=tot/\0<=n/\n<len then some (.ptr o n.toNat) else none
   | _=>none
  | _=>none
 | some (some k,S),.p (.int _ n)=>if 0<=n/\n<k then (if WA H x then some (B7 (n.toNat*S) x) else none) else none
 | _,_=>none
@[go_sem] theorem ZeU {x i} :QY P H t x i=UW (Wr P t) H x i:=Zm rfl rfl
theorem IY {S c xs n} (h0:0<=n) (h1:n<(List.length xs:Int)):UW (some (none,S)) H (.p (.list c xs)) (.p (.int k n))=if (KO xs n.toNat).cells.length=S then some (.lp (KO xs n.toNat) 0) else none:=by
 simp_all [UW]
def nth {α:Type} [Inhabited α] (l:List α) (i:Nat):α:=l.getD i default
theorem U0 {α:Type} [Inhabited α] {f:α->PV} {l:List α} {i:Nat} (h:i<l.length):KO (l.map f) i=f (nth l i):=by
 simp [KO,nth,h]
theorem Zi {α:Type} [Inhabited α] {l:List α} {i:Nat} (h:i<l.length):nth l i=l[i]:=by simp [nth,h]
@[go_sem] theorem xD {α:Type} [Inhabited α] {f:α->PV} {l:List α} {S c n} (h0:0<=n) (h1:n<(l.length:Int)) :
  UW (some (none,S)) H (.p (.list c (l.map f))) (.p (.int k n))=if (f (nth l n.toNat)).cells.length=S then some (.lp (f (nth l n.toNat)) 0) else none:=by
 grind [IY,U0]
def GO (ob:Obj) (S o off len tot:Nat) (n:Int):Option V:=match ob with
 | .elems S' xs=>if xs.length=tot/\S'=S then (if 0<=n/\n<len then some (.ep o (off+n.toNat) 0 tot) else none) else none
 | .cells _=>if S=1/\off=0/\len=tot/\0<=n/\n<len then some (.ptr o n.toNat) else none
 | _=>none
@[go_sem] theorem zJ {S o off len tot n} :UW (some (none,S)) H (.sl o off len tot) (.p (.int k n))=GO (oat H o) S o off len tot n:=Zm rfl rfl
@[go_sem] theorem Zf0 {S xs o off} {len tot:Nat} {n:Int} (h0:0<=n) (h1:n<(len:Int)) (ht:xs.length=tot):GO (.elems S xs) S o off len tot n=some (.ep o (off+n.toNat) 0 tot):=by
 grind [GO]
@[go_sem] theorem vV {cs o} {len:Nat} {n:Int} (h0:0<=n) (h1:n<(len:Int)):GO (.cells cs) 1 o 0 len len n=some (.ptr o n.toNat):=by
 grind [GO]
@[go_sem] theorem xC {n} {m S:Nat} {x} (h0:0<=n) (h1:n<(m:Int)):UW (some (some m,S)) H x (.p (.int k n))=EF (some (n.toNat*S)) (WA H x) x:=by
 simp_all [UW,EF]
def RO (H:List Obj) (D:Option TypeDesc) (x:V):Option PV:=match D,x with
 | some (.slice _),.p (.list _ xs)=>some (.int .i64 xs.length)
 | some (.slice _),.sl o _ len tot=>match oat H o with
  | .elems _ xs=>if xs.length=tot then some (.int .i64 len) else none
  | _=>none
 | some .string,.p (.str s)=>some (.int .i64 s.length)
 | some (.array n _),_=>some (.int .i64 n)
 | _,_=>none
@[go_sem] theorem Zl4 {x} :fR P H t x=RO H (P.underlying t) x:=Zm rfl rfl
@[go_sem] theorem zK {e c xs} :RO H (some (.slice e)) (.p (.list c xs))=some (.int .i64 (List.length xs)):=Zm rfl rfl
def ZkW (ob:Obj) (len tot:Nat):Option PV:=match ob with | .elems _ xs=>if xs.length=tot then some (.int .i64 len) else none | _=>none
@[go_sem] theorem Zh3 {e o off len tot} :RO H (some (.slice e)) (.sl o off len tot)=ZkW (oat H o) len tot:=Zm rfl rfl
@[go_sem] theorem Zd6 {S xs len tot} :ZkW (.elems S xs) len tot=if xs.length=tot then some (.int .i64 len) else none:=Zm rfl rfl
@[go_sem] theorem ZeX {s} :RO H (some .string) (.p (.str s))=some (.int .i64 (List.length s)):=Zm rfl rfl
@[go_sem] theorem Zmc {b} :aun .not (.p (.bool b))=some (.bool (!b)):=Zm rfl rfl
@[go_sem] theorem Zmb {n} :aun .neg (.p (.int k n))=some (.int k (k.wrap (0-n))):=Zm rfl rfl
def fL (D E:Option TypeDesc) (x:V):Option PV:=match D,E,x with
 | some _,some (.int k),.p (.int _ n)=>some (.int k (k.wrap n))
 | some (.int _),some .string,.p (.int _ n)=>if 0<=n/\n<128 then some (.str [UInt8.ofNat n.toNat]) else none
 | some .string,some .string,.p (.str b)=>some (.str b)
 | _,_,_=>none
@[go_sem] theorem Zh1 {s x} :MD P s t x=fL (P.underlying s) (P.underlying t) x:=Zm rfl rfl
@[go_sem] theorem zG {D k' n} :fL (some D) (some (.int k)) (.p (.int k' n))=some (.int k (k.wrap n)):=by rfl
def IW (E:Option TypeDesc) (H:List Obj) (x:V):Option PV:=match E,x with
  | some (.int .u8),.p (.list _ xs)=>(Wg xs).map .str
  | some (.int .u8),.sl o off len tot=>match oat H o with
   | .elems _ xs=>if xs.length=tot/\off+len<=tot then (Wg ((xs.take (off+len)).drop off)).map .str else none
   | _=>none
  | _,_=>none
def IV (P:Program) (H:List Obj) (D E:Option TypeDesc) (x:V):Option PV:=match D,E with
 | some (.slice e),some .string=>IW (P.underlying e) H x
 | _,_=>none
@[go_sem] theorem ZeF {s x} :Dr P H s t x=IV P H (P.underlying s) (P.underlying t) x:=Zm rfl rfl
@[go_sem] theorem wY {E x} :IV P H (some (.int k)) E x=none:=Zm rfl rfl
@[go_sem] theorem pU {e x} :IV P H (some (.slice e)) (some .string) x=IW (P.underlying e) H x:=Zm rfl rfl
def oJ (ob:Obj) (off len tot:Nat):Option PV:=match ob with | .elems _ xs=>if xs.length=tot/\off+len<=tot then (Wg ((xs.take (off+len)).drop off)).map .str else none | _=>none
@[go_sem] theorem zC {o off len tot} :IW (some (.int .u8)) H (.sl o off len tot)=oJ (oat H o) off len tot:=Zm rfl rfl
@[go_sem] theorem vQ {S xs off len tot} :oJ (.elems S xs) off len tot=if xs.length=tot/\off+len<=tot then (Wg ((xs.take (off+len)).drop off)).map .str else none:=Zm rfl rfl
@[go_sem] theorem xU : Wg []=some []:=Zm rfl rfl
@[go_sem] theorem rX {n r} :Wg (.int .u8 n::r)=(Wg r).map (UInt8.ofNat n.toNat:: ·):=by rfl
@[go_sem] theorem Zny {a b:Int} (h:0<=a):a.tdiv b=a / b:=EP h
@[go_sem] theorem ZnK {a b:Int} (h:0<=a):a.tmod b=a%b:=Int.tmod_eq_emod_of_nonneg h
@[go_sem] theorem Zqm {cs} :vc H (.p (.agg cs))=if cs.all (·.one)=true then some (cs.map .p) else none:=by rfl
@[go_sem] theorem ZnL {cs} :vc H (.agg cs)=if cs.all (V.one H)=true then some cs else none:=by rfl
@[go_sem] theorem Zqn {n} :vc H (.p (.int k n))=some [.p (.int k n)]:=Zm rfl rfl
@[go_sem] theorem ZnM {n} :vc H (.p (.bool n))=some [.p (.bool n)]:=Zm rfl rfl
@[go_sem] theorem Zqo {n} :vc H (.p (.str n))=some [.p (.str n)]:=Zm rfl rfl
@[go_sem] theorem ZnN {c xs} :vc H (.p (.list c xs))=some [.p (.list c xs)]:=Zm rfl rfl
@[go_sem] theorem ZrD {o off len tot} :vc H (.sl o off len tot)=if SE (oat H o) tot=true then some [.sl o off len tot] else none:=Zm rfl rfl
@[go_sem] theorem Zqp {x} :V.one H (.p x)=x.one:=Zm rfl rfl
@[go_sem] theorem ZnQ {o off len tot} :V.one H (.sl o off len tot)=SE (oat H o) tot:=Zm rfl rfl
@[go_sem] theorem ZnP {o} :V.one H (.mp o)=SC (oat H o):=Zm rfl rfl
@[go_sem] theorem ZrC {o} :vc H (.mp o)=if SC (oat H o)=true then some [.mp o] else none:=Zm rfl rfl
@[go_sem] theorem ZfJ {es} :SC (.map es)=true:=Zm rfl rfl
@[go_sem] theorem Ml {α:Type} {n} {cs:List α} :Jk ([]:List α) n cs= []:=by rfl
@[go_sem] theorem Zk0 {α:Type} {x c:α} {l cs} :Jk (x::l) 0 (c::cs)=c::Jk l 0 cs:=by simp [Jk]
@[go_sem] theorem Zf1 {α:Type} {x:α} {l} :Jk (x::l) 0 []=x::l:=by simp [Jk]
@[go_sem] theorem ZkZ {α:Type} {x:α} {l cs n} :Jk (x::l) (n+1) cs=x::Jk l n cs:=by simp [Jk]
def nN (H:List Obj) (o:Nat) (ob:Obj) (off n:Nat) (cs:List V):Option (List Obj):=match ob with
 | .cells old=>if off+n<=old.length then some (Gi H o (.cells (Jk old off cs))) else none
 | _=>none
@[go_sem] theorem Zan {n o off cs} :By H n (.ptr o off) cs=if cs.length=n then nN H o (oat H o) off n cs else none:=Zm rfl rfl
@[go_sem] theorem vD {o old off n cs} :nN H o (.cells old) off n cs=if off+n<=old.length then some (Gi H o (.cells (Jk old off cs))) else none:=Zm rfl rfl
def PB (H:List Obj) (o:Nat) (ob:Obj) (i j tot n:Nat) (ps:Option (List PV)):Option (List Obj):=match ob,ps with
 | .elems S xs,some ps=>if xs.length=tot/\i<xs.length/\j+n<=(KO xs i).cells.length/\ps.all (·.one)=true/\(KO xs i).cells.all (·.one)=true then
   some (Gi H o (.elems S (xs.set i (lM (KO xs i) (Jk (KO xs i).cells j ps))))) else none
 | _,_=>none
@[go_sem] theorem Zfj {n o i j tot cs} :By H n (.ep o i j tot) cs=if cs.length=n then PB H o (oat H o) i j tot n (QZ cs) else none:=Zm rfl rfl
@[go_sem] theorem ZaL {α:Type} [Inhabited α] {f:α->PV} {l:List α} {o S i j tot n ps} (ht:l.length=tot) (hi:i<l.length):PB H o (.elems S (l.map f)) i j tot n (some ps) =
  if j+n<=(f (nth l i)).cells.length/\ps.all (·.one)=true/\(f (nth l i)).cells.all (·.one)=true then
   some (Gi H o (.elems S ((l.map f).set i (lM (f (nth l i)) (Jk (f (nth l i)).cells j ps))))) else none:=by
 simp_all [PB,U0]
@[go_sem] theorem ZmZ {a cs} :lM (.agg a) cs= .agg cs:=Zm rfl rfl
@[go_sem] theorem Zm0 {n c l} :lM (.int k n) (c::l)=c:=Zm rfl rfl
@[go_sem] theorem Zkp {n c l} :lM (.bool n) (c::l)=c:=Zm rfl rfl
@[go_sem] theorem ZeE {l} :Fj P H t l=match Xl P t,BZ P t with
 | some zs,some pl=>(KF H pl (zs.map .p) l).map mkA
 | _,_=>none:=Zm rfl rfl
@[go_sem] theorem ZeO {pl cs} :KF H pl cs []=some cs:=by simp [KF]
def fN (H:List Obj) (pl:Nat->Option (Nat×Nat)) (cs:List V) (r:List (Nat×V)) (q:Option (Nat×Nat)) (vs:Option (List V)):Option (List V):=match q,vs with
 | some (off,sz),some vs=>if vs.length=sz/\off+sz<=cs.length then KF H pl (Jk cs off vs) r else none
 | _,_=>none
@[go_sem] theorem zH {pl cs i v r} :KF H pl cs ((i,v)::r)=fN H pl cs r (pl i) (vc H v):=Zm rfl rfl
@[go_sem] theorem xA {pl cs off sz vs r} :fN H pl cs r (some (off,sz)) (some vs)=if vs.length=sz/\off+sz<=cs.length then KF H pl (Jk cs off vs) r else none:=Zm rfl rfl
@[go_sem] theorem ZoS {l i} :BY l i=l[i]? :=Zm rfl rfl
@[go_sem] theorem ZoR {n i} :plA n i=some (i*n,n):=Zm rfl rfl
end vals
end Go.AM
namespace Go.AM
open Go.RowKit
section
variable {P : Program} {H : List Obj} {k : IntKind} {t u : TypeId} {fr : List V}
def fS (S:Option Nat) (H:List Obj) (n:Nat) (l:List (Nat×V)):Option (V×List Obj):=match S with
 | some S=>if n=l.length/\n*S<=16777216/\0<S then (Jx H S 0 l).map fun xs=>(.sl H.length 0 n n,H++ [.elems S xs]) else none
 | none=>none
@[go_sem] theorem Zh8 {n l} :Vd P (.buildSlice t n (List.toArray l)) fr H=fS (U4 P t) H n (l.map fun x=>(x.1,ev fr x.2)):=by
 grind [Vd,U4,fS,O7]
@[go_sem] theorem zL {S n l} :fS (some S) H n l=if n=l.length/\n*S<=16777216/\0<S then (Jx H S 0 l).map fun xs=>(.sl H.length 0 n n,H++ [.elems S xs]) else none:=Zm rfl rfl
@[go_sem] theorem Zkl {S n} :Jx H S n []=some []:=by simp [Jx]
@[go_sem] theorem ZfO {S n i x r} :Jx H S n ((i,.p x)::r)=if i=n then if x.cells.length=S/\x.cells.all (·.one)=true then (Jx H S (n+1) r).map (x:: ·) else none else none:=by rfl
@[go_sem] theorem ZmP {S n i f r} :Jx H S n ((i,.fn (.func f) [] [])::r)=if i=n then if 1=S then (Jx H S (n+1) r).map (.fn f:: ·) else none else none:=by simp [Jx,pvo,PV.cells,PV.one]
def Q2 (P:Program) (t:TypeId):Option (Nat×Nat):=match P.underlying t with
 | some (.slice e)=>match Y9 P e,zval P e,(P.info? e).map (·.bytes) with
  | some S,some z,some by'=>if 0<S/\z.cells.length=S/\z.cells.all (·.one)=true/\by'≠0 then some (S,by') else none
  | _,_,_=>none
 | _=>none
theorem Fs {S by'} (h:Q2 P t=some (S,by')): ∃e z,P.underlying t=some (.slice e)/\Y9 P e=some S/\zval P e=some z/\(P.info? e).map (·.bytes)=some by'/\0<S/\z.cells.length=S/\z.cells.all (·.one)=true/\by'≠0:=by
 unfold Q2 at h
 grind
def YX (D:Option TypeDesc) (H:List Obj) (y:V):Option (List PV):=match D,y with
 | some (.slice _),.p (.list _ ys)=>some ys
 | some (.slice _),.sl o off len tot=>match oat H o with
  | .elems _ xs=>if xs.length=tot/\off+len<=tot then some ((xs.take (off+len)).drop off) else none
  | _=>none
 | some .string,.p (.str s)=>some (s.map fun b=> .int .u8 b.toNat)
 | _,_=>none
def oX (ob:Obj) (off len tot:Nat):Option (List PV):=match ob with | .elems _ xs=>if xs.length=tot/\off+len<=tot then some ((xs.take (off+len)).drop off) else none | _=>none
@[go_sem] theorem Zab {e c ys} :YX (some (.slice e)) H (.p (.list c ys))=some ys:=Zm rfl rfl
@[go_sem] theorem Zij {e o off len tot} :YX (some (.slice e)) H (.sl o off len tot)=oX (oat H o) off len tot:=Zm rfl rfl
theorem OB {S xs n} (h:List.length xs=n):oX (.elems S xs) 0 n n=some xs:=by grind [oX]
def MJ (H:List Obj) (F:Option (Nat×Nat)) (ys:Option (List PV)):Option (V×List Obj):=match F,ys with
 | some (S,by'),some ys=>if K3 S ys=true/\ys.length*by'<=140737488355328/\ys.length<=140737488355328 then some (.sl H.length 0 ys.length ys.length,H++ [.elems S ys]) else none
 | _,_=>none
def UC (H:List Obj) (F:Option (Nat×Nat)) (ob:Obj) (o n:Nat) (ys:Option (List PV)):Option (V×List Obj):=match F,ob,ys with
 | some (S,by'),.elems S' xs,some ys=>if S'=S/\xs.length=n/\K3 S ys=true/\(n+ys.length)*by'<=140737488355328/\n+ys.length<=140737488355328 then
   some (.sl o 0 (n+ys.length) (n+ys.length),Gi H o (.elems S (xs++ys))) else none
 | _,_,_=>none
theorem IT {z x y ys e S by'} (h1:P.underlying t=some (.slice e)) (h2:Y9 P e=some S) (h3:zval P e=some z) (h4:(P.info? e).map (·.bytes)=some by') (h5:G8 P H u y=some ys) (h6:0<S/\z.cells.length=S/\z.cells.all (·.one)=true/\by'≠0) :
  Vc P H t u x y=if K3 S ys=true then (match x with
    | .p (.list cl xs)=>if cl=true/\K3 S xs=true/\(xs= []\/0<ys.length)/\(xs.length+ys.length)*by'<=140737488355328/\xs.length+ys.length<=140737488355328 then
      some (.sl H.length 0 (xs.length+ys.length) (xs.length+ys.length),H++ [.elems S (xs++ys)]) else none
    | .sl o off len tot=>match oat H o with
     | .elems S' xs=>if S'=S/\off=0/\len=tot/\xs.length=tot/\(tot+ys.length)*by'<=140737488355328/\tot+ys.length<=140737488355328 then
       some (.sl o 0 (tot+ys.length) (tot+ys.length),Gi H o (.elems S (xs++ys))) else none
     | _=>none
    | _=>none) else none:=by
 simp only [Vc,h1,h2,h3,h4,h5]
 grind
theorem B0 {y F} (hF:Q2 P t=some F):Vc P H t u (.p (.list true [])) y=MJ H (some F) (YX (P.underlying u) H y):=by
 obtain ⟨S,by'⟩:=F;obtain ⟨e,z,h1,h2,h3,h4,h6⟩:=Fs hF;have e1:YX (P.underlying u) H y=G8 P H u y:=Zm rfl rfl;rw [e1]
 cases h5:G8 P H u y with
 | none=>grind [Vc,MJ]
 | some ys =>
  grind [IT,MJ,K3]
theorem Yw {y F o n} (hF:Q2 P t=some F):Vc P H t u (.sl o 0 n n) y=UC H (some F) (oat H o) o n (YX (P.underlying u) H y):=by
 obtain ⟨S,by'⟩:=F;obtain ⟨e,z,h1,h2,h3,h4,h6⟩:=Fs hF;have e1:YX (P.underlying u) H y=G8 P H u y:=Zm rfl rfl;rw [e1]
 cases h5:G8 P H u y with
 | none =>
  grind [Vc,UC]
 | some ys =>
  rw [IT h1 h2 h3 h4 h5 h6];simp only [UC]
  grind
@[go_sem] theorem Ze8 {S b ys} :MJ H (some (S,b)) (some ys)=if K3 S ys=true/\ys.length*b<=140737488355328/\ys.length<=140737488355328 then some (.sl H.length 0 ys.length ys.length,H++ [.elems S ys]) else none:=Zm rfl rfl
theorem Hx {S b xs ys o n} (hn:xs.length=n) (hb:(n+ys.length)*b<=140737488355328) (hb2:n+ys.length<=140737488355328):UC H (some (S,b)) (.elems S xs) o n (some ys)=if K3 S ys=true then some (.sl o 0 (n+ys.length) (n+ys.length),Gi H o (.elems S (xs++ys))) else none:=by
 simp_all [UC]
@[go_sem] theorem Zk2 {α:Type} {S} {f:α->PV} {l:List α} :oX (.elems S (l.map f)) 0 l.length l.length=some (l.map f):=OB Zb
@[go_sem] theorem Zk3 {S x} :oX (.elems S [x]) 0 1 1=some [x]:=OB Zb
@[go_sem] theorem Zfa {α:Type} {S b o x} {f:α->PV} {l:List α} (hb:(l.length+1)*b<=140737488355328) (hb2:l.length+1<=140737488355328):UC H (some (S,b)) (.elems S (l.map f)) o l.length (some [x])=if K3 S [x]=true then some (.sl o 0 (l.length+1) (l.length+1),Gi H o (.elems S (l.map f++ [x]))) else none :=
 Hx Zb Za Za
@[go_sem] theorem Zfb {α β:Type} {S b o} {f:α->PV} {g:β->PV} {l:List α} {m:List β} (hb:(l.length+m.length)*b<=140737488355328) (hb2:l.length+m.length<=140737488355328):UC H (some (S,b)) (.elems S (l.map f)) o l.length (some (m.map g))=if K3 S (m.map g)=true then some (.sl o 0 (l.length+m.length) (l.length+m.length),Gi H o (.elems S (l.map f++m.map g))) else none:=by
 grind [Hx]
@[go_sem] theorem Zm2 {S} :K3 S []=true:=Zm rfl rfl
@[go_sem] theorem Zkw {S x l} :K3 S (x::l)=((x.cells.length==S)&&x.cells.all (·.one)&&K3 S l):=by rfl
theorem QQ {α:Type} {S} {f:α->PV} {l:List α} (h: ∀x,ZdE S (f x)=true):K3 S (l.map f)=true:=by grind [K3]
def SM (P:Program) (t:TypeId):Option (Nat×Nat×PV):=match P.underlying t with
  | some (.slice e)=>match Y9 P e,zval P e,(P.info? e).map (·.bytes) with
   | some S,some z,some by'=>if z.cells.all (·.one)=true/\z.cells.length=S/\0<S then some (S,by',z) else none
   | _,_,_=>none
  | _=>none
end
def WQ : Nat->List Nat->List V->List V
 | _,_,[]=> []
 | i,[],_::l=> .junk::WQ (i+1) [] l
 | i,k::ks,x::l=>if i=k then x::WQ (i+1) ks l else .junk::WQ (i+1) (k::ks) l
def KD : List (Nat×V)->List V->List V
 | [],fr=>fr
 | (i,v)::r,fr=>KD r (pt fr i v)
@[go_sem] theorem ZfK {i ks} :WQ i ks []= []:=by rfl
@[go_sem] theorem Zdv {i x l} :WQ i [] (x::l)= .junk::WQ (i+1) [] l:=by simp [WQ]
@[go_sem] theorem Zdu {i k ks x l} :WQ i (k::ks) (x::l)=if i=k then x::WQ (i+1) ks l else .junk::WQ (i+1) (k::ks) l:=by simp [WQ]
@[go_sem] theorem ZqC : ((0:Nat):Int)=0:=Zm rfl rfl
@[go_sem] theorem ZqD {n:Nat} :((n+1:Nat):Int)=(n:Int)+1:=Zm rfl rfl
@[go_sem] theorem Zpq {n:Nat} :((n:Int)).toNat=n:=Zm rfl rfl
@[go_sem] theorem ZkU {fr} :KD [] fr=fr:=by simp [KD]
@[go_sem] theorem ZfZ {i v r fr} :KD ((i,v)::r) fr=KD r (pt fr i v):=by simp [KD]
@[go_sem] theorem Zl9 {p q:Prop} [Decidable p] [Decidable q]:(decide p&&decide q)=decide (p/\q):=Zb
@[go_sem] theorem ZdI {p q:Prop} [Decidable p] [Decidable q]:(decide p||decide q)=decide (p\/q):=Zb
theorem Zl {P c fr H Q} {I:Type} (ks:List Nat) (sets:I->List (Nat×V)) (hs:I->List Obj) (R:I->Prop) (μ:I->Nat) (i0:I) (hR:R i0) (h0:Weak H.length fr H (KD (sets i0) (WQ 0 ks fr)) (hs i0))
  (round: ∀i,R i->JU [] P c (KD (sets i) (WQ 0 ks fr)) (hs i) (QU (fun fr' H'=> ∃i',R i'/\μ i'<μ i/\Weak H.length fr' H' (KD (sets i') (WQ 0 ks fr)) (hs i')) Q)):AWP P (.loop c) fr H Q :=
 MQ R (fun i=>KD (sets i) (WQ 0 ks fr)) hs μ i0 hR h0 fun i hi=>Zh [] _ _ _ _ (round i hi)
theorem Z0 {P c fr H Q} (cuts:List Nat) {I:Type} (ks:List Nat) (sets:I->List (Nat×V)) (hs:I->List Obj) (R:I->Prop) (μ:I->Nat) (i0:I) (hR:R i0) (h0:Weak H.length fr H (KD (sets i0) (WQ 0 ks fr)) (hs i0))
  (round: ∀i,R i->JU cuts P c (KD (sets i) (WQ 0 ks fr)) (hs i) (QU (fun fr' H'=> ∃i',R i'/\μ i'<μ i/\Weak H.length fr' H' (KD (sets i') (WQ 0 ks fr)) (hs i')) Q)):AWP P (.loop c) fr H Q :=
 MQ R (fun i=>KD (sets i) (WQ 0 ks fr)) hs μ i0 hR h0 fun i hi=>Zh cuts _ _ _ _ (round i hi)
theorem ZN {P x y fr H Q} {I:Type} (ks:List Nat) (sets:I->List (Nat×V)) (hs:I->List Obj) (R:I->Prop)
  (h:JU [] P x fr H (QU (fun fr' H'=> ∃i,R i/\Weak H.length fr' H' (KD (sets i) (WQ 0 ks fr)) (hs i)) Q)) (k: ∀i,R i->AWP P y (KD (sets i) (WQ 0 ks fr)) (hs i) Q):AWP P (.seq x y) fr H Q :=
 fun F ι a w hr hf=>by
 refine wp_seq (wp_mono (Zh [] _ _ _ _ h F ι a w hr hf) ?_);rintro e a' w' ⟨fr',H',ι',q,g,f⟩
 cases e with
 | normal =>
  obtain ⟨i,hi,hw⟩:=q;obtain ⟨ι2,r2,f2,g2⟩:=hw F ι' a' w' g.rel f;refine wp_mono (k i hi F ι2 a' w' r2 f2) ?_;rintro e2 a2 w2 ⟨fr2,H2,ι3,q2,g3,f3⟩;exact ⟨fr2,H2,ι3,q2,(g2 H ι w (ZD _) g).trans g3,f3⟩
 | exit id=>exact ⟨fr',H',ι',q,g,f⟩
 | goto l=>exact ⟨fr',H',ι',q,g,f⟩
 | ret=>exact ⟨fr',H',ι',q,g,f⟩
 | panic ch=>exact ⟨fr',H',ι',q,g,f⟩
 | outgrown=>exact ⟨fr',H',ι',q,g,f⟩
theorem ZlP {H n x} :Eb H n x x=(refB n x=true\/x= .junk\/ ∃y,eQ H n x=some y/\x= .p y):=by
 simp only [Eb,true_and,eq_iff_iff]
 grind
@[go_sem] theorem ZlN {H n x} :Eb H n x .junk=True:=by simp [Eb]
@[go_sem] theorem Zqs {H n} {x y:PV} :Eb H n (.p x) (.p y)=(y=x):=by simp [Eb,refB,eQ]
@[go_sem] theorem ZnV {H n o off len tot o' off' len' tot'} :Eb H n (.sl o off len tot) (.sl o' off' len' tot')=((o'=o/\off'=off/\len'=len/\tot'=tot)/\o<n):=by simp [Eb,refB]
@[go_sem] theorem ZlO {H n o off o' off'} :Eb H n (.ptr o off) (.ptr o' off')=((o'=o/\off'=off)/\o<n):=by simp [Eb,refB]
theorem wW {H n o off len tot y} :Eb H n (.sl o off len tot) (.p y)=(eQ H n (.sl o off len tot)=some y):=by simp [Eb]
@[go_sem] theorem ZnR {H n} :OZ H n [] []=True:=by simp [OZ]
@[go_sem] theorem ZlK {H n x l x' l'} :OZ H n (x::l) (x'::l')=(Eb H n x x'/\OZ H n l l'):=by simp [OZ]
@[go_sem] theorem ZnS {H n l} :OS H n l []=True:=by simp [OS]
@[go_sem] theorem ZlL {H n x l x' l'} :OS H n (x::l) (x'::l')=(Fh H n x x'/\OS H n l l'):=by simp [OS]
@[go_sem] theorem Zhc {H n cs cs'} :Fh H n (.cells cs) (.cells cs')=OZ H n cs cs':=by simp [Fh]
@[go_sem] theorem Zhd {H n S S' xs xs'} :Fh H n (.elems S xs) (.elems S' xs')=(S=S'/\xs=xs'):=by simp [Fh]
@[go_sem] theorem ZnT {H n es es2} :Fh H n (.map es) (.map es2)=(es=es2):=by simp [Fh]
@[go_sem] theorem Zqr {H n o o2} :Eb H n (.mp o) (.mp o2)=(o2=o/\o<n):=by simp [Eb,refB,eQ]
@[go_sem] theorem ZlM {H n} :Fh H n .dead .dead=True:=by simp [Fh]
theorem Weak.mk {n0 fr H fr' H'} (h:n0<=H'.length/\H'.length<=H.length/\OZ H H'.length fr fr'/\OS H H'.length H H'):Weak n0 fr H fr' H':=Weak.of h.1 h.2.2.1 h.2.2.2 h.2.1
theorem wk {n0 fr H fr' H'} (h:n0<=H'.length/\H'.length<=H.length/\OZ H H'.length fr fr'/\OS H H'.length H H':=by simp (disch:=omega) only [go_sem,seval]):Weak n0 fr H fr' H':=Weak.mk h
theorem we {n0 x H' a b} (h:n0<=List.length b/\List.length b<=H'.length/\OZ H' (List.length b) [x] [a]/\OS H' (List.length b) H' b:=by simp (disch:=omega) only [go_sem,seval]): ∃y H'',Weak n0 [x] H' [y] H''/\y=a/\H''=b:=⟨_,_,Weak.mk h,rfl,rfl⟩
attribute [go_sem] List.length_cons List.length_nil List.cons_append List.nil_append List.append_nil List.map_cons List.map_nil List.drop_zero List.drop_succ_cons List.drop_nil List.take_succ_cons List.take_zero List.take_nil List.all_cons List.all_nil
 Xq Uh and_self true_and and_true AJ AI ES CB QL VP Bool.and_self ZG if_true Ye Vj Kb IntWalk.i64_in IntWalk.i32_in IntWalk.u8_in IntWalk.u64_in IntWalk.u32_in
 beq_self_eq_true KU List.replicate_zero Bool.or_true Bool.true_or Bool.or_false Bool.false_or YV Vs
end Go.AM
namespace Go.AM
open Go.RowKit
theorem RP.weaker {X X':Nat->Prop} {w x v} (h:RP X w x v) (hx: ∀b,X' b->X b):RP X' w x v:=h.ext (w':=w) fun _ hb hs=>⟨fun h=>hb (hx _ h),hs,rfl⟩
theorem Good.forget {F w H' ι' w'} (he:Env F [] w) (hf: ∀b,F b->b<w.heap.size) (g:Good F [] [] w H' ι' w'):Good F [] [] w [] [] w' :=
 .up he ⟨⟨rfl,fun b hb=>by have:=hf b hb;have:=g.size;omega,fun i j b hi=>by simp at hi,fun i b hi=>by simp at hi,fun o cs ho=>by simp at ho,fun o S xs ho=>by simp at ho,fun o es ho=>by simp at ho,fun o T E r bs ho=>by simp at ho⟩,
  g.os,g.tape,g.output,fun b c t h=>(g.shape b c t h).imp (fun h=>absurd h.1 Zb) id,g.size,g.keep,fun _ _ h=>h,fun o ob ho=>by simp at ho⟩
theorem ACalls.pure {P g args} {y:PV} (h:ACalls P g args [] fun x _=>x= .p y):ACalls P g args [] fun x H'=>x= .p y/\H'= []:=by
 refine ⟨h.1,fun F ι w vs hr hv=> ?_⟩;have hι:ι= []:=YK hr.len;subst hι;refine (h.2 F [] w vs hr hv).mono ?_;rintro e w' ⟨x,H',ι',v,rfl,rfl,gd,rv⟩
 cases rv with | p _ _ rp =>
 exact ⟨_,[],[],v,rfl,⟨rfl,rfl⟩,gd.forget hr.env hr.fin,.p _ _ (rp.weaker fun b hb=> .inl (by rcases hb with hb | hb;exact hb;simp at hb))⟩
theorem FT {F:Nat->Prop} {w w':World} {H':List Obj} {ι':List (Option Nat)} {v:Value} {o S n:Nat} {xs:List PV} (hF: ∀b,F b->b<w.heap.size) (hn:xs.length=n) (ho:oat H' o= .elems S xs)
  (gd:Good F [] [] w H' ι' w') (rv:RV F H' ι' w' (.sl o 0 n n) v): ∃ι2,Good F [] [] w [.elems S xs] ι2 w'/\RV F [.elems S xs] ι2 w' (.sl 0 0 n n) v:=by
 have hH:=XA ho Zb;have hlt:=(ZX.1 hH).1
 have hlt':o<ι'.length:=by rw [gd.rel.len];exact hlt
 have hι':ι'[o]? =some (ι'[o]):=by simp [hlt']
 have hget: ∀ {i:Nat} {q:Option Nat},[ι'[o]][i]? =some q->i=0/\ι'[o]? =some q:=fun {i q} h=>by
  grind
 have hown: ∀b,Own F [ι'[o]] b->Own F ι' b:=fun b hb=>by
  rcases hb with hb | hb
  ·exact .inl hb
  ·simp at hb;right;rw [hb];simp
 refine ⟨[ι'[o]],⟨⟨⟨rfl,fun b hb=> ?_,fun i j b hi hj=> ?_,fun i b hi=> ?_,fun o' cs ho'=> ?_,fun o' S' xs' ho'=> ?_,fun o' es ho'=>by grind,fun o' T E r bs ho'=>by grind⟩,gd.rel.env.le hown⟩,gd.os,gd.tape,gd.output,fun b c t h=>(gd.shape b c t h).imp (fun h=>absurd h.1 Zb) id,gd.size,gd.keep,fun b hb _ h=> ?_,fun o ob ho=>by simp at ho⟩,?_⟩
 ·have:=hF b hb;have:=gd.size;omega
 ·grind
 ·exact gd.rel.avo o b (hget hi).2
 ·grind
 ·cases o' with
  | zero =>
   simp at ho';obtain ⟨rfl,rfl⟩:=ho';rcases gd.rel.elm o _ _ hH with ⟨e1,e2⟩ | ⟨b,c,t,cap,e1,e2,e3,e4,e5,e6,e7⟩
   ·grind
   ·exact .inr ⟨b,c,t,cap,by grind,e2,e3,e4,e5,e6,fun i x j y hi hj=>(e7 i x j y hi hj).weaker hown⟩
  | succ i=>simp at ho'
 ·simp at h;exact gd.own b hb Zb (by rw [h];simp)
 ·cases rv with
  | slNil _ S2 a h1 h2 =>
   rw [hH] at h2;simp at h2;obtain ⟨rfl,rfl⟩:=h2;exact .slNil 0 S a (by grind) rfl
  | sl _ _ _ _ b S2 cap t xs2 c h1 h2 ht hw hcap hl hlen hm =>
   rw [hH] at h2;simp at h2;obtain ⟨rfl,rfl⟩:=h2;exact .sl 0 0 n n b S cap t xs c (by grind) rfl hn hw hcap hl hlen hm
  | slD _ _ _ _ _ h1=>grind
  | slS _ _ _ _ _ S2 xs2 h1 hne=>grind
  | slC _ _ _ _ _ _ hd=>grind
theorem ACalls.fresh {P g args} {S n:Nat} {xs:List PV} (hn:xs.length=n) (h:ACalls P g args [] fun x H'=> ∃o,x= .sl o 0 n n/\oat H' o= .elems S xs):ACalls P g args [] fun x H'=>x= .sl 0 0 n n/\H'= [.elems S xs]:=by
 refine ⟨h.1,fun F ι w vs hr hv=> ?_⟩;have hι:ι= []:=YK hr.len;subst hι;refine (h.2 F [] w vs hr hv).mono ?_;rintro e w' ⟨x,H',ι',v,rfl,⟨o,rfl,ho⟩,gd,rv⟩;obtain ⟨ι2,g2,r2⟩:=FT hr.fin hn ho gd rv
 grind
theorem ACalls.freshE {P g args} {α:Type} {S:Nat} {f:α->PV} {R:List α->Prop} (h:ACalls P g args [] fun x H'=> ∃l:List α,R l/\ ∃o,x= .sl o 0 l.length l.length/\oat H' o= .elems S (l.map f)) :
  ACalls P g args [] fun x H'=> ∃l:List α,R l/\x= .sl 0 0 l.length l.length/\H'= [.elems S (l.map f)]:=by
 refine ⟨h.1,fun F ι w vs hr hv=> ?_⟩;have hι:ι= []:=YK hr.len;subst hι;refine (h.2 F [] w vs hr hv).mono ?_;rintro e w' ⟨x,H',ι',v,rfl,⟨l,hl,o,rfl,ho⟩,gd,rv⟩;obtain ⟨ι2,g2,r2⟩:=FT hr.fin Zb ho gd rv
 grind
theorem ACalls.frozen {P g args} {S n:Nat} {xs:List PV} (hn:xs.length=n) (h:ACalls P g args [] fun x H'=>x= .sl 0 0 n n/\H'= [.elems S xs]):ACalls P g args [] fun x H'=>x= .p (.list false xs)/\H'= []:=by
 refine ⟨h.1,fun F ι w vs hr hv=> ?_⟩;have hι:ι= []:=YK hr.len;subst hι;refine (h.2 F [] w vs hr hv).mono ?_;rintro e w' ⟨x,H',ι',v,rfl,⟨rfl,rfl⟩,gd,rv⟩;have hk:Keeps (Own F ι') w' (Own F []) w':=fun b hb hs=>⟨fun h=>hb (.inl (by rcases h with h | h;exact h;simp at h)),hs,rfl⟩
 have:=BQ (S:=S) (xs:=xs) (off:=0) (len:=n) (tot:=n) (Own F []) (fun b hb h=>by
  rcases h with h | h
  ·exact (gd.rel.avo 0 b hb).1 h
  ·simp at h) hk gd.rel rfl hn Za rv
 rw [Xq,E0,CD Za] at this;exact ⟨_,[],[],v,rfl,⟨rfl,rfl⟩,gd.forget hr.env hr.fin,.p _ _ this⟩
theorem ACalls.frozenE {P g args} {α:Type} {S:Nat} {f:α->PV} {R:List α->Prop} (h:ACalls P g args [] fun x H'=> ∃l:List α,R l/\x= .sl 0 0 l.length l.length/\H'= [.elems S (l.map f)]) :
  ACalls P g args [] fun x H'=> ∃l:List α,R l/\x= .p (.list false (l.map f))/\H'= []:=by
 refine ⟨h.1,fun F ι w vs hr hv=> ?_⟩;have hι:ι= []:=YK hr.len;subst hι;refine (h.2 F [] w vs hr hv).mono ?_;rintro e w' ⟨x,H',ι',v,rfl,⟨l,hl,rfl,rfl⟩,gd,rv⟩;have hk:Keeps (Own F ι') w' (Own F []) w':=fun b hb hs=>⟨fun h=>hb (.inl (by rcases h with h | h;exact h;simp at h)),hs,rfl⟩
 have:=BQ (S:=S) (xs:=l.map f) (off:=0) (len:=l.length) (tot:=l.length) (Own F []) (fun b hb h=>by
  rcases h with h | h
  ·exact (gd.rel.avo 0 b hb).1 h
  ·simp at h) hk gd.rel rfl Zb Za rv
 rw [Xq,E0,CD Zb] at this;exact ⟨_,[],[],v,rfl,⟨l,hl,rfl,rfl⟩,gd.forget hr.env hr.fin,.p _ _ this⟩
theorem ACalls.useV {P g args} {α:Type} {f:α->PV} {R:α->Prop} {H:List Obj} {K:V->List Obj->Prop} (h:ACalls P g args [] fun x H'=> ∃a:α,R a/\x= .p (f a)/\H'= []) (k: ∀a,R a->K (.p (f a)) H) (ha:Xs 0 args=true:=by rfl):ACalls P g args H K:=by
 refine (h.behind ha H).mono ?_;rintro x H' ⟨y',H1,⟨a,ra,rfl,rfl⟩,rfl,rfl⟩
 grind [shV]
theorem ACalls.useE {P g args} {α:Type} {S:Nat} {f:α->PV} {R:List α->Prop} {H:List Obj} {K:V->List Obj->Prop} (h:ACalls P g args [] fun x H'=> ∃l:List α,R l/\x= .sl 0 0 l.length l.length/\H'= [.elems S (l.map f)])
  (k: ∀l,R l->K (.sl H.length 0 l.length l.length) (H++ [.elems S (l.map f)])) (ha:Xs 0 args=true:=by rfl):ACalls P g args H K:=by
 refine (h.behind ha H).mono ?_;rintro x H' ⟨y',H1,⟨l,rl,rfl,rfl⟩,rfl,rfl⟩
 grind [shV,shO]
theorem ACalls.use {P g args} {y:PV} {H:List Obj} {K:V->List Obj->Prop} (h:ACalls P g args [] fun x H'=>x= .p y/\H'= []) (k:K (.p y) H) (ha:Xs 0 args=true:=by rfl):ACalls P g args H K:=by
 refine (h.behind ha H).mono ?_;rintro x H' ⟨y',H1,⟨rfl,rfl⟩,rfl,rfl⟩
 grind [shV]
theorem ACalls.useF {P g args} {S n:Nat} {xs:List PV} {H:List Obj} {K:V->List Obj->Prop} (h:ACalls P g args [] fun x H'=>x= .sl 0 0 n n/\H'= [.elems S xs]) (k:K (.sl H.length 0 n n) (H++ [.elems S xs])) (ha:Xs 0 args=true:=by rfl):ACalls P g args H K:=by
 refine (h.behind ha H).mono ?_;rintro x H' ⟨y',H1,⟨rfl,rfl⟩,rfl,rfl⟩
 grind [shV,shO]
theorem Zc {P:Program} {g:FuncId} {fn:Func} {c:Code} {args:List V} {y:PV} (hf:P.funcs[g]? =some fn) (hb:fn.body=some c) (hg:Zj P g)
  (h:JU [] P c (args++List.replicate (fn.ntmps-args.length) .junk) [] (BO P fn.results.toList fun x _=>x= .p y)):ACalls P g args [] fun x H'=>x= .p y/\H'= [] :=
 (Y1 hf hb hg (Zh [] _ _ _ _ h)).pure
theorem UV (cuts:List Nat) {P:Program} {g:FuncId} {fn:Func} {c:Code} {args:List V} {y:PV} (hf:P.funcs[g]? =some fn) (hb:fn.body=some c) (hg:Zj P g)
  (h:JU cuts P c (args++List.replicate (fn.ntmps-args.length) .junk) [] (BO P fn.results.toList fun x _=>x= .p y)):ACalls P g args [] fun x H'=>x= .p y/\H'= [] :=
 (Y1 hf hb hg (Zh cuts _ _ _ _ h)).pure
theorem UU {P:Program} {g:FuncId} {fn:Func} {c:Code} {args:List V} {S n:Nat} {xs:List PV} (hn:xs.length=n) (hf:P.funcs[g]? =some fn) (hb:fn.body=some c) (hg:Zj P g)
  (h:JU [] P c (args++List.replicate (fn.ntmps-args.length) .junk) [] (BO P fn.results.toList fun x H'=> ∃o,x= .sl o 0 n n/\oat H' o= .elems S xs)):ACalls P g args [] fun x H'=>x= .sl 0 0 n n/\H'= [.elems S xs] :=
 (Y1 hf hb hg (Zh [] _ _ _ _ h)).fresh hn
theorem G7 (cuts:List Nat) {P:Program} {g:FuncId} {fn:Func} {c:Code} {args:List V} {S n:Nat} {xs:List PV} (hn:xs.length=n) (hf:P.funcs[g]? =some fn) (hb:fn.body=some c) (hg:Zj P g)
  (h:JU cuts P c (args++List.replicate (fn.ntmps-args.length) .junk) [] (BO P fn.results.toList fun x H'=> ∃o,x= .sl o 0 n n/\oat H' o= .elems S xs)):ACalls P g args [] fun x H'=>x= .sl 0 0 n n/\H'= [.elems S xs] :=
 (Y1 hf hb hg (Zh cuts _ _ _ _ h)).fresh hn
theorem ZJ (cuts:List Nat) {P:Program} {g:FuncId} {fn:Func} {c:Code} {args:List V} {α:Type} {S:Nat} {f:α->PV} {R:List α->Prop} (hf:P.funcs[g]? =some fn) (hb:fn.body=some c) (hg:Zj P g)
  (h:JU cuts P c (args++List.replicate (fn.ntmps-args.length) .junk) [] (BO P fn.results.toList fun x H'=> ∃l:List α,R l/\ ∃o,x= .sl o 0 l.length l.length/\oat H' o= .elems S (l.map f))):ACalls P g args [] fun x H'=> ∃l:List α,R l/\x= .sl 0 0 l.length l.length/\H'= [.elems S (l.map f)] :=
 (Y1 hf hb hg (Zh cuts _ _ _ _ h)).freshE
theorem Weak.ofNil {n0 fr H fr' H'} (t S:Nat) (h:gt fr t= .p (.list true [])) (hn:n0<=H.length) (k:Weak n0 (pt fr t (.sl H.length 0 0 0)) (H++ [.elems S []]) fr' H'):Weak n0 fr H fr' H' :=
 (Weak.nil t S h hn).trans k
end Go.AM
namespace Go.AM
open Go.RowKit
section
variable {P : Program} {H : List Obj} {t : TypeId} {fr : List V}
def Fu (e:Option (Option Nat×Nat)) (c:Bool) (xs:List PV) (lo hi:V):Option V:=match e,lo,hi with
 | some (none,S),.p (.int _ a),.p (.int _ b)=>if B4 S xs=true/\0<=a/\a<=b/\b<=xs.length then some (.p (.list (c&&decide (b=xs.length)) ((xs.take b.toNat).drop a.toNat))) else none
 | _,_,_=>none
def V.isInt : V->Option Int
 | .p (.int _ n)=>some n
 | _=>none
theorem V.isInt_some {x:V} {n} (h:x.isInt=some n): ∃k,x= .p (.int k n):=by
 unfold V.isInt at h;grind
theorem Jl {d:Int} {x:Operand} :OX d fr (some x)=(ev fr x).isInt:=rfl
theorem Dv {c xs k k' a b} :(JT P t c xs a b none).map .p=Fu (Wr P t) c xs (.p (.int k a)) (.p (.int k' b)):=by
 simp only [JT,Fu]
 grind
theorem RY {e c xs lo hi} (h:lo.isInt=none):Fu e c xs lo hi=none:=by
 unfold Fu;grind [V.isInt]
theorem RX {e c xs lo hi} (h:hi.isInt=none):Fu e c xs lo hi=none:=by
 unfold Fu;grind [V.isInt]
@[go_sem] theorem Zfd {c xs hi} :Vl P H t fr (.p (.list c xs)) none (some hi) none=Fu (Wr P t) c xs (.p (.int .i64 0)) (ev fr hi):=by
 simp only [Vl,Jl]
 cases h:(ev fr hi).isInt with
 | none=>simp [OX,RX h]
 | some n=>obtain ⟨k,e⟩:=V.isInt_some h;rw [e,<- Dv];rfl
@[go_sem] theorem Zfe {c xs lo} :Vl P H t fr (.p (.list c xs)) (some lo) none none=Fu (Wr P t) c xs (ev fr lo) (.p (.int .i64 (List.length xs))):=by
 simp only [Vl,Jl]
 cases h:(ev fr lo).isInt with
 | none=>simp [RY h]
 | some n=>obtain ⟨k,e⟩:=V.isInt_some h;rw [e,<- Dv];rfl
@[go_sem] theorem xF {c xs lo hi} :Vl P H t fr (.p (.list c xs)) (some lo) (some hi) none=Fu (Wr P t) c xs (ev fr lo) (ev fr hi):=by
 simp only [Vl,Jl]
 cases h:(ev fr lo).isInt with
 | none=>simp [RY h]
 | some n =>
  cases h2:(ev fr hi).isInt with
  | none=>simp [RX h2]
  | some m=>grind [V.isInt_some,Dv]
@[go_sem] theorem Zii {α:Type} {f:α->PV} {l:List α} {S c k k' a b} (h0:0<=a) (h1:a<=b) (h2:b<=(l.length:Int)) :
  Fu (some (none,S)) c (l.map f) (.p (.int k a)) (.p (.int k' b))=if B4 S (l.map f)=true then some (.p (.list (c&&decide (b=l.length)) (((l.take b.toNat).drop a.toNat).map f))) else none:=by
 simp_all [Fu]
end
def ME (P:Program) (d:Option TypeDesc) (x i:V):Option V :=
 match d,x,i with
 | some .string,.p (.str s),.p (.int _ n)=>if 0<=n then (s[n.toNat]?).map fun b=> .p (.int .u8 b.toNat) else none
 | some (.array k e),.p (.agg cs),.p (.int _ n)=>if 0<=n/\n<k then (match Y9 P e with | some m=>(apart P e cs (n.toNat*m)).map .p | none=>none) else none
 | _,_,_=>none
@[go_sem] theorem Zl3 {P:Program} {t:TypeId} {x i:V} :MF P t x i=ME P (P.underlying t) x i:=Zm rfl rfl
@[go_sem] theorem ZeT {P:Program} {s:List UInt8} {k n} (h0:0<=n) (h1:n<(s.length:Int)):ME P (some .string) (.p (.str s)) (.p (.int k n))=some (.p (.int .u8 ((nth s n.toNat).toNat:Nat))):=by
 grind [ME,Zi]
def I6 (d:Option TypeDesc) (s:List UInt8) (lo hi:V):Option V:=match d,lo,hi with
 | some .string,.p (.int _ a),.p (.int _ b)=>if 0<=a/\a<=b/\b<=s.length then some (.p (.str ((s.take b.toNat).drop a.toNat))) else none
 | _,_,_=>none
theorem rD {d s lo hi} (h:lo.isInt=none):I6 d s lo hi=none:=by
 unfold I6;grind [V.isInt]
theorem rC {d s lo hi} (h:hi.isInt=none):I6 d s lo hi=none:=by
 unfold I6;grind [V.isInt]
section
variable {P : Program} {H : List Obj} {t : TypeId} {fr : List V}
theorem TP {s:List UInt8} {k k' a b} :(match P.underlying t with | some .string=>(if 0<=a/\a<=b/\b<=(s.length:Int) then some (V.p (.str ((s.take b.toNat).drop a.toNat))) else none) | _=>none)=I6 (P.underlying t) s (.p (.int k a)) (.p (.int k' b)):=by
 simp only [I6]
 grind
@[go_sem] theorem rE {s lo hi} :Vl P H t fr (.p (.str s)) (some lo) (some hi) none=I6 (P.underlying t) s (ev fr lo) (ev fr hi):=by
 simp only [Vl,Jl]
 cases h:(ev fr lo).isInt with
 | none=>rw [rD h];simp
 | some n =>
  cases h2:(ev fr hi).isInt with
  | none=>rw [rC h2];simp
  | some m =>
   grind [V.isInt_some,TP]
def MM (e:Option (Option Nat×Nat)) (xs:List PV) (hi mx:V):Option V:=match e,hi,mx with
 | some (none,S),.p (.int _ b),.p (.int _ m)=>if B4 S xs=true/\0<=b/\b<=xs.length/\m=b then some (.p (.list true (xs.take b.toNat))) else none
 | _,_,_=>none
theorem rA {e xs hi mx} (h:hi.isInt=none):MM e xs hi mx=none:=by
 unfold MM;grind [V.isInt]
theorem rB {e xs hi mx} (h:mx.isInt=none):MM e xs hi mx=none:=by
 unfold MM;grind [V.isInt]
@[go_sem] theorem xE {c xs hi mx} :Vl P H t fr (.p (.list c xs)) none (some hi) (some mx)=MM (Wr P t) xs (ev fr hi) (ev fr mx):=by
 simp only [Vl,Jl]
 cases h:(ev fr hi).isInt with
 | none=>grind [rA]
 | some n =>
  cases h2:(ev fr mx).isInt with
  | none=>grind [rB]
  | some m =>
   obtain ⟨k,e⟩:=V.isInt_some h;obtain ⟨k2,e2⟩:=V.isInt_some h2;rw [e,e2];simp only [OX,JT,MM]
   grind
@[go_sem] theorem Zih {α:Type} {f:α->PV} {l:List α} {S k k' b m} (h0:m=b) (h1:b=(l.length:Int)):MM (some (none,S)) (l.map f) (.p (.int k b)) (.p (.int k' m))=if B4 S (l.map f)=true then some (.p (.list true (l.map f))) else none:=by
 subst h0;subst h1;simp only [MM,ZG]
 by_cases h:B4 S (l.map f)=true
 ·simp_all [CD]
 grind
end
@[go_sem low] theorem fV {H:List Obj} {S b xs ys o n} :UC H (some (S,b)) (.elems S xs) o n (some ys)=if xs.length=n/\K3 S ys=true/\(n+ys.length)*b<=140737488355328/\n+ys.length<=140737488355328 then some (.sl o 0 (n+ys.length) (n+ys.length),Gi H o (.elems S (xs++ys))) else none:=by simp [UC]
@[go_sem] theorem ZnU {H:List Obj} {n f a b f' a' b'} :Eb H n (.fn f a b) (.fn f' a' b')=((f'=f/\a'=a/\b'=b)/\refB n (.fn f a b)=true):=by simp [Eb,eQ]
@[go_sem] theorem Zm8 {n f a b} :refB n (.fn f a b)=(Xs n a&&Xs n b):=by simp [refB]
@[go_sem] theorem ZoT {n x} :refB n (.p x)=true:=by simp [refB]
@[go_sem] theorem ZkO {n o off} :refB n (.ptr o off)=decide (o<n):=by simp [refB]
@[go_sem] theorem Zm9 {n o off l t} :refB n (.sl o off l t)=decide (o<n):=by simp [refB]
@[go_sem] theorem ZfX {n} :Xs n []=true:=by simp [Xs]
@[go_sem] theorem ZdX {n x l} :Xs n (x::l)=(refB n x&&Xs n l):=by simp [Xs]
theorem ACalls.useH {P g args H} {v:V} {H2:List Obj} {K:V->List Obj->Prop} (h:ACalls P g args H fun x H'=>x=v/\H'=H2) (k:K v H2):ACalls P g args H K :=
 h.mono (by grind)
theorem B5 {α:Type} {f:α->PV} {S:Nat} (h: ∀x,(f x).cells.length=S) (l:List α):B4 S (l.map f)=true:=by
 cases l with
 | nil=>rfl
 | cons x l=>simp [B4,h]
@[go_sem] theorem Zl7 {k k'} {a b:Int} (h:b<=a):I0 false [.p (.int k a),.p (.int k' b)]=some (.int k a):=by simp [I0];omega
def Q0 (F:Option (Nat×Nat×PV)) (H:List Obj) (x y:V):Option (V×List Obj):=match F,x,y with
 | some (S,by',z),.p (.int .i64 n),.p (.int .i64 m)=>if n=m/\0<=n/\(by':Int)*n<=281474976710656/\n<=281474976710656 then some (.sl H.length 0 n.toNat n.toNat,H++ [.elems S (List.replicate n.toNat z)]) else none
 | _,_,_=>none
theorem Fp {P:Program} {t:TypeId} {fr:List V} {H:List Obj} {x y:Operand} {F} (h:SM P t=some F):Vd P (.makeSlice t x y) fr H=Q0 (some F) H (ev fr x) (ev fr y):=by
 unfold SM at h
 split at h
 ·rename_i e hu
  split at h
  ·rename_i S' z' b h1 h2 h3
   split at h
   ·rename_i hc;simp at h;subst h
    have h3':(P.info? e).map (fun x=>(x.bytes:Int))=some (b:Int):=by
     cases hi:P.info? e with
     | none=>grind
     | some i=>grind
    simp only [Vd,hu,h2,hc.1,if_true,RS,h1,h3'];generalize ev fr x=X;generalize ev fr y=Y
    by_cases hX: ∃n,X= .p (.int .i64 n)
    ·obtain ⟨n,rfl⟩:=hX
     by_cases hY: ∃m,Y= .p (.int .i64 m)
     ·obtain ⟨m,rfl⟩:=hY;simp [Q0,hc.2]
     ·have e1:Q0 (some (S',b,z')) H (.p (.int .i64 n)) Y=none:=by
       unfold Q0;grind
      grind
    ·have e1:Q0 (some (S',b,z')) H X Y=none:=by
      unfold Q0;grind
     grind
   ·cases h
  ·cases h
 ·cases h
@[go_sem] theorem Ze2 {H:List Obj} {S b:Nat} {z n} (h0:0<=n) (h1:(b:Int)*n<=281474976710656) (h2:n<=281474976710656):Q0 (some (S,b,z)) H (.p (.int .i64 n)) (.p (.int .i64 n))=some (.sl H.length 0 n.toNat n.toNat,H++ [.elems S (List.replicate n.toNat z)]):=by
 simp_all [Q0]
theorem ZdJ (x y:Nat) (hx:x<9223372036854775808) (hy:y<9223372036854775808):IntKind.i64.wrap ((BitVec.ofInt 64 (x:Int)|||BitVec.ofInt 64 (y:Int)).toNat:Int)=((x|||y:Nat):Int):=by
 have e:(BitVec.ofInt 64 (x:Int)|||BitVec.ofInt 64 (y:Int)).toNat=x|||y:=by
  grind
 have h:x|||y<2^63:=Jd Za Za
 grind [IntWalk.i64_in]
theorem qM (x y:Nat) (hx:x<9223372036854775808) (hy:y<9223372036854775808):IntKind.i64.wrap ((BitVec.ofInt 64 (x:Int)&&&BitVec.ofInt 64 (y:Int)).toNat:Int)=((x&&&y:Nat):Int):=by
 grind [Nat.and_le_left,IntWalk.i64_in]
@[go_sem high] theorem fG {P:Program} {t:TypeId} {x y:Nat} (hx:x<9223372036854775808) (hy:y<9223372036854775808):Yp P .or t (.p (.int .i64 (x:Int))) (.p (.int .i64 (y:Int)))=some (.int .i64 ((x|||y:Nat):Int)):=by
 rw [RN];exact ZQ (fun q=>some (PV.int .i64 q)) (ZdJ x y hx hy)
@[go_sem high] theorem TE {P:Program} {t:TypeId} {x y:Nat} (hx:x<9223372036854775808) (hy:y<9223372036854775808):Yp P .and t (.p (.int .i64 (x:Int))) (.p (.int .i64 (y:Int)))=some (.int .i64 ((x&&&y:Nat):Int)):=by
 rw [fE];exact ZQ (fun q=>some (PV.int .i64 q)) (qM x y hx hy)
def pw (k:Nat):Nat:=2^k
theorem E9 (k:Nat):pw (k+1)=2*pw k:=by grind [pw]
theorem Kx {k m:Nat} (h:k<=m):pw k<=pw m:=YB Za h
theorem Gu (k:Nat):0<pw k:=Nat.pow_pos Za
theorem Gt : pw 62=4611686018427387904:=by decide
@[go_sem high] theorem ZeC {P:Program} {t:TypeId} {k'} {a:Int} (h0:0<=a) (h1:a<=62):Yp P .shl t (.p (.int .i64 1)) (.p (.int k' a))=some (.int .i64 ((pw a.toNat:Nat):Int)):=by
 rw [fI h0]
 have h2:min a.toNat IntKind.i64.bits=a.toNat:=by show min a.toNat 64=a.toNat;omega
 rw [h2,Int.one_mul]
 have h3:((2:Int)^a.toNat)=((pw a.toNat:Nat):Int):=by simp [pw]
 rw [h3];have:=Kx (show a.toNat<=62 by omega)
 grind [Gt,IntWalk.i64_in]
attribute [go_sem] List.length_append List.map_append not_false_eq_true not_true_eq_false false_and and_false true_or or_true false_or or_false Classical.not_not Bool.false_eq_true Bool.and_false Bool.false_and
end Go.AM
namespace Go.AM
open Go.RowKit
theorem LC {P ds frJ H} {K K':List V->Prop} : ∀(l:List Oper) (i:Nat) (vals:List V),(∀ys,ys.length=vals.length+l.length->K ys->K' ys)->hd P ds frJ H K i l vals->hd P ds frJ H K' i l vals
 | [],i,vals,hk,h=>hk vals rfl h
 | o::l,i,vals,hk,h=>by
  have ih: ∀y,hd P ds frJ H K (i+1) l (vals++ [y])->hd P ds frJ H K' (i+1) l (vals++ [y]):=fun y=>LC l (i+1) (vals++ [y]) fun ys hy=>hk ys (by simp at hy ⊢;omega);simp only [hd] at h ⊢
  split at h
  ·obtain ⟨y,h1,h2⟩:=h;exact ⟨y,h1,ih y h2⟩
  ·unfold XU at h ⊢
   split at h
   ·exact ⟨fun e=>by obtain ⟨y,h1,h2⟩:=h.1 e;exact ⟨y,h1,ih y h2⟩,fun e=>ih _ (h.2 e)⟩
   ·exact ih _ h
   ·exact h.elim
def hall : List (Option Nat)->List V->List V->List V
 | some d::ds,v::vals,fr=>hall ds vals (pt fr d v)
 | none::ds,_::vals,fr=>hall ds vals fr
 | _,_,fr=>fr
theorem BE (d:Option Nat) (v:V) (ds:List (Option Nat)) (vals:List V): ∀(l:List Nat) (fr:List V),ZV (d::ds) (v::vals) (l.map (· +1)) fr=ZV ds vals l fr
 | [],fr=>rfl
 | j::l,fr=>by
  simp only [Zs,ZV,CB]
  split<;>exact BE d v ds vals l _
theorem FX : ∀(ds:List (Option Nat)) (vals:List V) (fr:List V),vals.length=ds.length->ZV ds vals (List.range ds.length) fr=hall ds vals fr
 | [],[],fr,_=>rfl
 | d::ds,v::vals,fr,h=>by
  have ih:=fun fr=>FX ds vals fr (by simpa using h);rw [ZF,List.range_succ_eq_map]
  cases d with
  | none=>simp only [ZV,ES,hall];rw [BE];exact ih fr
  | some d=>simp only [ZV,ES,hall];rw [BE];exact ih _
 | [],_::_,_,h=>by simp at h
 | _::_,[],_,h=>by simp at h
theorem Fv {P:Program} {id:Nat} {l:List Oper} {fr:List V} {H:List Obj} {Q:Exit->List V->List Obj->Prop} {t} (hm:P.follows .mixedOrders=true) (hB:Vf (List.toArray l) l.length=true)
  (h:hd P (l.map (·.dst)) (Z6 (l.map (·.dst)) fr) H (Zv (fun vals=>Q .normal (hall (l.map (·.dst)) vals (Z6 (l.map (·.dst)) fr)) H) ⟨⟩) 0 l []) :
  AWP P (.region id (Zv (List.toArray l) t) true) fr H Q:=by
 refine Hy (ops:=List.toArray l) l.length hm hB ?_;have e0:(List.toArray l).toList=l:=rfl;rw [e0];have e1:(l.map (fun x=>Oper.dst x)).take l.length=l.map (·.dst):=CD Zb;have e2:l.take l.length=l:=X7
 have e3:l.drop l.length= []:=Zb
 rw [e1,e2,e3];refine LC _ _ _ (fun ys hy hk=> ?_) h;have e4:=FX (l.map (·.dst)) ys (Z6 (l.map (·.dst)) fr) (by grind);rw [ZG] at e4;simp only [YO];rw [e4];exact hk
def aL (A:V->Prop) (B:V->Prop):Prop:= ∃y,A y/\B y
section
variable {P : Program} {ds : List (Option Nat)} {frJ : List V} {H : List Obj} {K : List V -> Prop} {i : Nat} {r : List Oper} {vals : List V} {d : Option Nat} {op : Op} {t : TypeId} {ps : String} {af : Array Edge}
@[go_sem ↓] theorem Zou : hd P ds frJ H K i [] vals=K vals:=Zm rfl rfl
@[go_sem ↓] theorem ZmL : hd P ds frJ H K i (⟨d,op,t,ps,af,none⟩::r) vals=aL (fun y=>ZK P ⟨d,op,t,ps,af,none⟩ (LD (ZV ds vals (ZR i ⟨d,op,t,ps,af,none⟩) frJ)) H (Zv (fun x H'=>x=y/\H'=H) ⟨⟩)) (Zv (fun y=>hd P ds frJ H K (i+1) r (vals++ [y])) ⟨⟩):=Zm rfl rfl
@[go_sem ↓, go_sem] theorem Zok {v:V} {B:V->Prop} {t} :aL (fun y=>v=y) (Zv B t)=B v:=by simp [aL,Zv]
@[go_sem] theorem Zfx {l:List Edge} {g} :ZR i ⟨d,op,t,ps,List.toArray l,g⟩=(l.filter fun e=>Region.binds .any e&&decide (e.on<i)).map (·.on):=Zm rfl rfl
@[go_sem] theorem Zar {on} :Region.binds .any ⟨on,.data⟩=true:=Zm rfl rfl
@[go_sem] theorem xS {on} :Region.binds .any ⟨on,.phase⟩=true:=Zm rfl rfl
@[go_sem] theorem xR {on} :Region.binds .any ⟨on,.chain⟩=true:=Zm rfl rfl
@[go_sem] theorem Zas {on k} :Region.binds .any ⟨on,.textOnly k⟩=false:=Zm rfl rfl
@[go_sem] theorem Zir {on k} :Region.binds .any ⟨on,.gcOnly k⟩=false:=Zm rfl rfl
def Sw (ds:List (Option Nat)) (vals:List V) (l:List Nat) (fr:List V) (a:Option (Option Nat)) (v:Option V):List V:=match a,v with
 | some (some d),some v=>ZV ds vals l (pt fr d v)
 | _,_=>ZV ds vals l fr
@[go_sem] theorem Zi1 {fr} :ZV ds vals [] fr=fr:=Zm rfl rfl
@[go_sem] theorem ZfH {j l fr} :ZV ds vals (j::l) fr=Sw ds vals l fr ds[j]? vals[j]? :=by rfl
@[go_sem] theorem ZaU {l fr d v} :Sw ds vals l fr (some (some d)) (some v)=ZV ds vals l (pt fr d v):=Zm rfl rfl
@[go_sem] theorem ZfB {d ds v vals fr} :hall (some d::ds) (v::vals) fr=hall ds vals (pt fr d v):=Zm rfl rfl
@[go_sem] theorem ZiV {fr} :hall [] [] fr=fr:=Zm rfl rfl
@[go_sem] theorem ZfG {fr} :Z6 [] fr=fr:=Zm rfl rfl
@[go_sem] theorem ZaT {d l fr} :Z6 (some d::l) fr=Z6 l (pt fr d .junk):=Zm rfl rfl
theorem Zo {f azs} {z:PV} {B:V->Prop} {t} (h:ACalls P f azs [] fun x H'=>x= .p z/\H'= []) (k:B (.p z)) (ha:Xs 0 azs=true:=by rfl) :
  aL (fun y=>ACalls P f azs H (Zv (Zv (fun x H'=>x=y/\H'=H) ⟨⟩) ⟨⟩)) (Zv B t) :=
 ⟨.p z,h.use ⟨rfl,rfl⟩ ha,k⟩
end
section
variable {P : Program} {fr : List V} {H : List Obj} {k : V -> List Obj -> Prop} {d : Option Nat} {t : TypeId} {ps : String} {af : Array Edge} {g : Option (Nat × Bool)}
@[go_sem ↓] theorem Zae {u n l} :ZK P ⟨d,.buildSlice u n (List.toArray l),t,ps,af,g⟩ fr H k=BM ((RQ (U4 P u) H n (l.map fun x=>(x.1,ev fr x.2))).map .p) (Zv (fun v=>k v H) ⟨⟩):=by
 grind [ZK,BM,Zv]
@[go_sem] theorem zM {S n l} :RQ (some S) H n l=if n=l.length/\n*S<=16777216/\0<S then (Jx H S 0 l).map (.list false) else none:=Zm rfl rfl
@[go_sem ↓] theorem xI {x} :ZK P ⟨d,.move x,t,ps,af,g⟩ fr H k=Zy P ⟨d,.move x,t,ps,af,g⟩ fr H k:=rfl
@[go_sem ↓] theorem pW {x} :ZK P ⟨d,.assign x,t,ps,af,g⟩ fr H k=Zy P ⟨d,.assign x,t,ps,af,g⟩ fr H k:=rfl
@[go_sem ↓] theorem xJ {x y z} :ZK P ⟨d,.pick x y z,t,ps,af,g⟩ fr H k=Zy P ⟨d,.pick x y z,t,ps,af,g⟩ fr H k:=rfl
@[go_sem ↓] theorem rF {x} :ZK P ⟨d,.alloc x,t,ps,af,g⟩ fr H k=Zy P ⟨d,.alloc x,t,ps,af,g⟩ fr H k:=rfl
@[go_sem ↓] theorem Zac {x y} :ZK P ⟨d,.box x y,t,ps,af,g⟩ fr H k=Zy P ⟨d,.box x y,t,ps,af,g⟩ fr H k:=rfl
@[go_sem ↓] theorem rH {x y} :ZK P ⟨d,.build x y,t,ps,af,g⟩ fr H k=Zy P ⟨d,.build x y,t,ps,af,g⟩ fr H k:=rfl
@[go_sem ↓] theorem xH {x y} :ZK P ⟨d,.load x y,t,ps,af,g⟩ fr H k=Zy P ⟨d,.load x y,t,ps,af,g⟩ fr H k:=rfl
@[go_sem ↓] theorem rL {x y z} :ZK P ⟨d,.store x y z,t,ps,af,g⟩ fr H k=Zy P ⟨d,.store x y z,t,ps,af,g⟩ fr H k:=rfl
@[go_sem ↓] theorem eG {x} :ZK P ⟨d,.nilCheck x,t,ps,af,g⟩ fr H k=Zy P ⟨d,.nilCheck x,t,ps,af,g⟩ fr H k:=rfl
@[go_sem ↓] theorem rG {x y z u v} :ZK P ⟨d,.binOp x y z u v,t,ps,af,g⟩ fr H k=Zy P ⟨d,.binOp x y z u v,t,ps,af,g⟩ fr H k:=rfl
@[go_sem ↓] theorem xK {x y z} :ZK P ⟨d,.unOp x y z,t,ps,af,g⟩ fr H k=Zy P ⟨d,.unOp x y z,t,ps,af,g⟩ fr H k:=rfl
@[go_sem ↓] theorem gA {x y z} :ZK P ⟨d,.convert x y z,t,ps,af,g⟩ fr H k=Zy P ⟨d,.convert x y z,t,ps,af,g⟩ fr H k:=rfl
@[go_sem ↓] theorem eE {x y z} :ZK P ⟨d,.makeFunc x y z,t,ps,af,g⟩ fr H k=Zy P ⟨d,.makeFunc x y z,t,ps,af,g⟩ fr H k:=rfl
@[go_sem ↓] theorem TS {x y z} :ZK P ⟨d,.makeSlice x y z,t,ps,af,g⟩ fr H k=Zy P ⟨d,.makeSlice x y z,t,ps,af,g⟩ fr H k:=rfl
@[go_sem ↓] theorem rK {x y z u v} :ZK P ⟨d,.slice x y z u v,t,ps,af,g⟩ fr H k=Zy P ⟨d,.slice x y z u v,t,ps,af,g⟩ fr H k:=rfl
@[go_sem ↓] theorem TQ {x y z} :ZK P ⟨d,.fieldAddr x y z,t,ps,af,g⟩ fr H k=Zy P ⟨d,.fieldAddr x y z,t,ps,af,g⟩ fr H k:=rfl
@[go_sem ↓] theorem rI {x y z} :ZK P ⟨d,.field x y z,t,ps,af,g⟩ fr H k=Zy P ⟨d,.field x y z,t,ps,af,g⟩ fr H k:=rfl
@[go_sem ↓] theorem TR {x y z} :ZK P ⟨d,.indexAddr x y z,t,ps,af,g⟩ fr H k=Zy P ⟨d,.indexAddr x y z,t,ps,af,g⟩ fr H k:=rfl
@[go_sem ↓] theorem rJ {x y z} :ZK P ⟨d,.index x y z,t,ps,af,g⟩ fr H k=Zy P ⟨d,.index x y z,t,ps,af,g⟩ fr H k:=rfl
@[go_sem ↓] theorem gB {x y} :ZK P ⟨d,.extract x y,t,ps,af,g⟩ fr H k=Zy P ⟨d,.extract x y,t,ps,af,g⟩ fr H k:=rfl
@[go_sem ↓] theorem xG {x y z} :ZK P ⟨d,.call ⟨.value x,y,z⟩,t,ps,af,g⟩ fr H k=Zy P ⟨d,.call ⟨.value x,y,z⟩,t,ps,af,g⟩ fr H k:=rfl
@[go_sem ↓] theorem Zad {y z} :ZK P ⟨d,.call ⟨.builtin .len,y,z⟩,t,ps,af,g⟩ fr H k=Zy P ⟨d,.call ⟨.builtin .len,y,z⟩,t,ps,af,g⟩ fr H k:=rfl
@[go_sem ↓] theorem Zaf {y z} :ZK P ⟨d,.call ⟨.builtin .max,y,z⟩,t,ps,af,g⟩ fr H k=Zy P ⟨d,.call ⟨.builtin .max,y,z⟩,t,ps,af,g⟩ fr H k:=rfl
@[go_sem ↓] theorem Zag {y z} :ZK P ⟨d,.call ⟨.builtin .min,y,z⟩,t,ps,af,g⟩ fr H k=Zy P ⟨d,.call ⟨.builtin .min,y,z⟩,t,ps,af,g⟩ fr H k:=rfl
def Sl (P:Program) (H:List Obj) (t u:TypeId) (x y:V) (k:V->List Obj->Prop):Prop:= ∃S zs,Vc P H t u x y=some (.sl H.length 0 zs.length zs.length,H++ [.elems S zs])/\k (.p (.list false zs)) H
@[go_sem ↓] theorem pV {x y u u2} :ZK P ⟨d,.call ⟨.builtin .append,#[x,y],#[u,u2]⟩,t,ps,af,g⟩ fr H k=Sl P H u u2 (ev fr x) (ev fr y) (Zv k ⟨⟩):=rfl
def TN (F:Option (Nat×Nat)) (xs:List PV) (ys:Option (List PV)):Option PV:=match F,ys with
 | some (S,by'),some ys=>if K3 S ys=true/\K3 S xs=true/\(xs= []\/0<ys.length)/\(xs.length+ys.length)*by'<=140737488355328/\xs.length+ys.length<=140737488355328 then some (.list false (xs++ys)) else none
 | _,_=>none
@[go_sem] theorem Zfc {α:Type} {S b} {f:α->PV} {l:List α} {x:PV} (hb:(l.length+1)*b<=140737488355328) (hb2:l.length+1<=140737488355328):TN (some (S,b)) (l.map f) (some [x])=if K3 S [x]=true/\K3 S (l.map f)=true then some (.list false (l.map f++ [x])) else none:=by
 grind [TN]
theorem PE {u u2:TypeId} {F} {xs:List PV} {y:V} (hF:Q2 P u=some F) {tt} :Sl P H u u2 (.p (.list true xs)) y (Zv k tt)=BM ((TN (some F) xs (YX (P.underlying u2) H y)).map .p) (Zv (fun v=>k v H) ⟨⟩):=by
 obtain ⟨S,by'⟩:=F;obtain ⟨e,z,h1,h2,h3,h4,h6⟩:=Fs hF;have e1:YX (P.underlying u2) H y=G8 P H u2 y:=Zm rfl rfl;rw [e1];unfold Sl Zv
 cases h5:G8 P H u2 y with
 | none =>
  grind [Vc,TN,BM]
 | some ys =>
  rw [IT h1 h2 h3 h4 h5 h6];simp only [TN]
  by_cases hc:K3 S ys=true
  ·rw [if_pos hc];simp only [hc,true_and]
   by_cases hd:K3 S xs=true/\(xs= []\/0<ys.length)/\(xs.length+ys.length)*by'<=140737488355328/\xs.length+ys.length<=140737488355328
   ·rw [if_pos hd,if_pos hd];simp only [AJ,BM,eq_iff_iff]
    constructor
    ·simp_all
    ·intro hk;exact ⟨S,xs++ys,Zb,hk⟩
   simp_all [if_neg,BM]
  ·simp [hc,BM]
theorem I8 {o fr' H'} (h:fr=fr') (h2:H=H'):ZK P o fr H k=ZK P o fr' H' k:=by rw [h,h2]
end
attribute [congr] I8
attribute [go_sem] List.filter_cons List.filter_nil
end Go.AM
namespace Go.AM
open Go.RowKit
mutual
/-- no memory in it -/
def PL : PV->Bool
 | .list _ xs=>xs.isEmpty
 | .agg cs=>Nn cs
 | _=>true
def Nn : List PV->Bool
 | []=>true
 | x::l=>PL x&&Nn l
end
theorem Au : ∀ {l:List PV},Nn l=true-> ∀(j:Nat) (x:PV),l[j]? =some x->PL x=true
 | [],_,j,x,h=>by simp at h
 | y::l,hh,j,x,h=>by
  simp [Nn] at hh
  cases j with
  | zero=>simp at h;subst h;exact hh.1
  | succ j=>exact Au hh.2 j x (by simpa using h)
theorem RP.anywhere {X X':Nat->Prop} {w w' x v} (h:RP X w x v) (hf:PL x=true):RP X' w' x v:=by
 induction h with
 | int k n=>exact .int k n
 | bool b=>exact .bool b
 | str s=>exact .str s
 | nilp=>exact .nilp
 | nili=>exact .nili
 | nilf=>exact .nilf
 | nilm=>exact .nilm
 | fn f=>exact .fn f
 | nils cl=>exact .nils cl
 | emp cl a cap hc hm ha=>exact .emp cl a cap hc hm ha
 | list cl xs b off cap S u hX hb hc hm hcl hS hu hr ih =>
  have:xs= []:=by grind [PL]
  subst this;exact .emp cl _ cap (fun h=>by grind) hm (fun _ x hx=>by grind)
 | agg cs a hs _ ih=>exact .agg cs a hs fun j c hj=>ih j c hj (Au (by grind [PL]) j c hj)
def vw (H:List Obj):V->Option V
 | .p x=>some (.p x)
 | .fn f [] []=>some (.fn f [] [])
 | .sl o off len tot=>match oat H o with
  | .elems _ xs=>if xs.length=tot/\off+len<=tot then some (.p (.list false ((xs.take (off+len)).drop off))) else none
  | _=>none
 | _=>none
def vws (H:List Obj):List V->Option (List V)
 | []=>some []
 | x::l=>match vw H x,vws H l with | some y,some ys=>some (y::ys) | _,_=>none
abbrev Bd : Nat->Prop:=fun _=>False
theorem CZ {b:Nat} : ¬Own Bd [] b:=by simp [Own]
theorem ZkR {F H ι w x v y} (hr:Rel F H ι w) (h:RV F H ι w x v) (hy:vw H x=some y):RV Bd [] [] w y v:=by
 unfold vw at hy
 split at hy
 ·simp at hy;subst hy
  cases h with | p _ _ h=>exact .p _ _ (h.weaker fun b hb=>absurd hb CZ)
 ·simp at hy;subst hy;generalize v=u at h
  cases h with
  | fn _ _ _ a e hs ht _ _=>exact .fn _ [] [] a e hs ht (fun j c hj=>by simp at hj) (fun j c hj=>by simp at hj)
 ·rename_i o off len tot
  split at hy
  ·rename_i S xs ho
   split at hy
   ·rename_i hc;simp at hy;subst hy;exact .p _ _ (BQ _ (fun b _ hb=>CZ hb) (fun b _ hs=>⟨CZ,hs,rfl⟩) hr (XA ho Zb) hc.1 hc.2 h)
   ·cases hy
  ·cases hy
 ·cases hy
theorem Tz {H} : ∀ {l l':List V},vws H l=some l'->l'.length=l.length/\ ∀(j:Nat) (y:V),l'[j]? =some y-> ∃x,l[j]? =some x/\vw H x=some y
 | [],l',h=>by simp [vws] at h;grind
 | x::l,l',h=>by
  simp only [vws] at h
  split at h
  ·rename_i y ys h1 h2;simp at h;subst h;obtain ⟨e,hg⟩:=Tz h2;refine ⟨by simp [e],fun j z hj=> ?_⟩
   cases j with
   | zero=>simp at hj;subst hj;exact ⟨x,Zb,h1⟩
   | succ j=>obtain ⟨q,q1,q2⟩:=hg j z (by simpa using hj);exact ⟨q,by simpa using q1,q2⟩
  ·cases h
theorem Good.lift {F H ι w H1 ι1 w'} (hr:Rel F H ι w) (g:Good Bd [] [] w H1 ι1 w') (h1: ∀(o:Nat) (ob:Obj),H1[o]? =some ob-> ∃S xs,ob= .elems S xs/\Nn xs=true):Good (Own F ι) [] [] w H1 ι1 w':=by
 have hnew: ∀b,some b∈ι1-> ¬b<w.heap.size:=fun b hb hlt=>g.own b hlt Zb hb
 have hold: ∀b,Own F ι b->b<w.heap.size:=fun b hb=>by
  rcases hb with hb | hb
  ·exact hr.fin b hb
  ·obtain ⟨i,hi⟩:=Xk.1 hb;exact (hr.avo i b hi).2
 refine Good.up hr.env.fresh ⟨⟨g.rel.len,fun b hb=>by have:=hold b hb;have:=g.size;omega,g.rel.inj,fun i b hi=> ?_,fun o cs ho=> ?_,fun o S xs ho=> ?_,fun o es ho=>(by grind),fun o T E r bs ho=>(by grind)⟩,g.os,g.tape,g.output,g.shape,g.size,g.keep,g.own,g.hx⟩
 ·refine ⟨fun hb=>hnew b (XG hi) (hold b hb),(g.rel.avo i b hi).2⟩
 ·grind
 ·rcases g.rel.elm o S xs ho with e | ⟨b,c,t,cap,e1,e2,e3,e4,e5,e6,e7⟩
  ·exact .inl e
  ·refine .inr ⟨b,c,t,cap,e1,e2,e3,e4,e5,e6,fun i x j y hi hj=> ?_⟩;obtain ⟨S',xs',e,hf⟩:=h1 o _ ho;simp at e;obtain ⟨rfl,rfl⟩:=e;have hx:=Au hf i x hi;refine (e7 i x j y hi hj).anywhere ?_
   cases x<;>simp only [PV.cells] at hj
   case agg cs=>grind [Au,PL]
   all_goals (cases j with
    | zero=>simp at hj;subst hj;exact hx
    | succ j=>simp at hj)
theorem Gz {w:World} (he:Env Bd [] w):Rel Bd [] [] w:=⟨⟨rfl,fun b hb=>hb.elim,fun i j b hi=>by simp at hi,fun i b hi=>by simp at hi,fun o cs ho=>by simp at ho,fun o S xs ho=>by simp at ho,fun o es ho=>by simp at ho,fun o T E r bs ho=>by simp at ho⟩,he⟩
theorem ACalls.view {P g args args'} {y:PV} {H:List Obj} {K:V->List Obj->Prop} (h:ACalls P g args' [] fun x H'=>x= .p y/\H'= []) (hv:vws H args=some args') (hy:PL y=true) (k:K (.p y) H):ACalls P g args H K:=by
 refine ⟨h.1,fun F ι w vs hr hvs=> ?_⟩;obtain ⟨e,hg⟩:=Tz hv;refine (h.2 Bd [] w vs (Gz hr.env.noth) ⟨by rw [hvs.1,e],fun j c hj=> ?_⟩).mono ?_
 ·obtain ⟨x,h1,h2⟩:=hg j c hj;exact ZkR hr (hvs.2 j x h1) h2
 ·rintro e w' ⟨x,H',ι',v,rfl,⟨rfl,rfl⟩,gd,rv⟩;have g2:=(gd.lift hr (fun o ob ho=>by simp at ho)).behind hr;have hι:ι'= []:=YK gd.rel.len;subst hι;simp only [Zk,Yr] at g2
  cases rv with | p _ _ rp =>
  exact ⟨_,H,ι,v,rfl,k,g2,.p _ _ (rp.anywhere hy)⟩
def rd1 (H:List Obj):V->Option PV
 | .p x=>some x
 | .sl o off len tot=>match oat H o with
  | .elems _ xs=>if xs.length=tot/\off+len<=tot then some (.list false ((xs.take (off+len)).drop off)) else none
  | _=>none
 | _=>none
def rds (H:List Obj):List V->Option (List PV)
 | []=>some []
 | x::l=>match rd1 H x,rds H l with | some y,some ys=>some (y::ys) | _,_=>none
def rd (H:List Obj):V->Option PV
 | .agg cs=>(rds H cs).map .agg
 | x=>rd1 H x
@[go_sem] theorem Zl5 {o off len tot r} :QZ (.sl o off len tot::r)=none:=Zm rfl rfl
attribute [go_sem] Option.map_none
end Go.AM
namespace Go.Proofs.YtjkkdmeebhjaiaaGreatDoor.K
open Go Go.AM
def Ed (be:List (Int×Int)) (a b:Nat):Prop:= ∃p∈be,p.1=(a:Int)/\p.2=(b:Int)
inductive Ch (be:List (Int×Int)):Nat->Nat->Prop where
 | one {a b} (h:Ed be a b):Ch be a b
 | more {a b c} (h:Ch be a b) (k:Ed be b c):Ch be a c
def Val (n:Nat) (be:List (Int×Int)):Prop:= ∀p∈be,0<=p.1/\p.1<n/\0<=p.2/\p.2<n
def EA (out:List Nat) (p:Int×Int):List Nat:=out.set p.2.toNat (nth out p.2.toNat|||nth out p.1.toNat|||pw p.1.toNat)
def E7 (out:List Nat) (be:List (Int×Int)):List Nat:=be.foldl EA out
structure Snd (n:Nat) (be:List (Int×Int)) (out:List Nat):Prop where
 len:out.length=n
 lt: ∀b,b<n->nth out b<pw n
 snd: ∀a b,b<n->(nth out b).testBit a=true->Ch be a b
structure Clo (n:Nat) (be:List (Int×Int)) (out:List Nat):Prop extends Snd n be out where
 cmp: ∀a b,Ch be a b->(nth out b).testBit a=true
theorem E4 (l:List Nat) (i j v:Nat) (h:j<l.length):nth (l.set i v) j=if i=j then v else nth l j:=by
 grind [nth]
theorem Snd.zero (n be):Snd n be (List.replicate n 0):=by
 refine ⟨Zb,fun b hb=> ?_,fun a b hb h=> ?_⟩
 ·grind [Zi,Gu]
 grind [Zi]
theorem Kq (a b:Nat):(pw a).testBit b=decide (a=b):=by grind [pw]
theorem Snd.step {n be out} (hv:Val n be) (hs:Snd n be out) {p} (hp:p∈be):Snd n be (EA out p):=by
 obtain ⟨h1,h2,h3,h4⟩:=hv p hp;refine ⟨by simp [EA,hs.len],fun b hb=> ?_,fun a b hb h=> ?_⟩
 ·rw [EA,E4 _ _ _ _ (by rw [hs.len];exact hb)]
  split
  ·have e1:=hs.lt p.2.toNat Za;have e2:=hs.lt p.1.toNat Za
   have e3:pw p.1.toNat<pw n:=by
    have:=E9 p.1.toNat;have h5:pw (p.1.toNat+1)<=pw n:=Kx Za;omega
   exact Jd (Jd e1 e2) e3
  ·exact hs.lt b hb
 ·rw [EA,E4 _ _ _ _ (by rw [hs.len];exact hb)] at h
  split at h
  ·rename_i hb2;have hE:Ed be p.1.toNat b:=⟨p,hp,Za,Za⟩;simp only [AL,Vq] at h;rcases h with (h | h) | h
   ·exact hs.snd a b hb (by grind)
   ·exact (hs.snd a _ Za h).more hE
   ·rw [Kq] at h;simp at h;subst h;exact .one hE
  ·exact hs.snd a b hb h
theorem Snd.rnd {n be out} (hv:Val n be) (hs:Snd n be out): ∀(l:List (Int×Int)),(∀p∈l,p∈be)->Snd n be (E7 out l):=by
 intro l
 induction l generalizing out with
 | nil=>intro _;exact hs
 | cons p l ih=>intro h;exact ih (hs.step hv (h p Zb)) fun q hq=>h q (by simp [hq])
theorem yH (x y:Nat):x<=x|||y:=Nat.left_le_or
def tot (l:List Nat):Nat:=l.foldr (· + ·) 0
theorem Tu : ∀(l:List Nat) (i v:Nat),i<l.length->tot (l.set i v)+nth l i=tot l+v
 | [],i,v,h=>by simp at h
 | x::l,0,v,h=>by simp [tot,nth];omega
 | x::l,i+1,v,h=>by
  have:=Tu l i v (by simpa using h);simp only [ZY,tot,List.foldr_cons,nth,List.getD_cons_succ] at this ⊢;omega
theorem pG : ∀(l:List Nat) (m:Nat),(∀i,i<l.length->nth l i<m)->tot l<=l.length*m
 | [],m,h=>by simp [tot]
 | x::l,m,h=>by
  have h0:=h 0 Zb
  have:=pG l m fun i hi=>by have:=h (i+1) (by grind);grind [nth]
  grind [tot,XM,nth]
theorem Sd (out:List Nat) (p:Int×Int) (h:p.2.toNat<out.length):tot out<=tot (EA out p)/\(tot (EA out p)=tot out->EA out p=out):=by
 have e:=Tu out p.2.toNat (nth out p.2.toNat|||nth out p.1.toNat|||pw p.1.toNat) h;have h1:nth out p.2.toNat<=nth out p.2.toNat|||nth out p.1.toNat|||pw p.1.toNat:=QM (yH _ _) (yH _ _);refine ⟨by rw [EA];omega,fun he=> ?_⟩;rw [EA] at he ⊢
 have:nth out p.2.toNat|||nth out p.1.toNat|||pw p.1.toNat=nth out p.2.toNat:=Za
 simp_all [Zi]
theorem Ra (out l m):E7 out (l++m)=E7 (E7 out l) m:=by grind [E7]
theorem C0 {n be} (hv:Val n be): ∀(l:List (Int×Int)) (out:List Nat),(∀p∈l,p∈be)->Snd n be out->tot out<=tot (E7 out l)/\(tot (E7 out l)=tot out->E7 out l=out/\ ∀p∈l,EA out p=out)
 | [],out,_,_=>⟨ZD _,fun _=>⟨rfl,fun p hp=>by simp at hp⟩⟩
 | p::l,out,hl,hs=>by
  obtain ⟨h1,h2,h3,h4⟩:=hv p (hl p Zb);have c:=Sd out p (by rw [hs.len];omega);have r:=C0 hv l (EA out p) (fun q hq=>hl q (by simp [hq])) (hs.step hv (hl p Zb));refine ⟨QM c.1 r.1,fun e=> ?_⟩;have e:tot (E7 (EA out p) l)=tot out:=e
  have e1:tot (EA out p)=tot out:=Za
  have e2:=c.2 e1
  have e3:tot (E7 (EA out p) l)=tot (EA out p):=Za
  obtain ⟨e4,e5⟩:=r.2 e3;rw [e2] at e4 e5;refine ⟨by grind [E7],fun q hq=> ?_⟩
  grind
theorem Snd.clo {n be out} (hv:Val n be) (hs:Snd n be out) (h:tot (E7 out be)=tot out):Clo n be out:=by
 have hc:=((C0 hv be out (fun _ h=>h) hs).2 h).2
 have key: ∀p∈be,∀a,(a=p.1.toNat\/(nth out p.1.toNat).testBit a=true)->(nth out p.2.toNat).testBit a=true:=fun p hp a ha=>by
  obtain ⟨h1,h2,h3,h4⟩:=hv p hp;have e:=hc p hp
  have e2:nth (EA out p) p.2.toNat=nth out p.2.toNat:=by rw [e]
  rw [EA,E4 _ _ _ _ (by rw [hs.len];omega)] at e2;simp only [if_true] at e2;rw [<- e2];simp only [AL,Vq,Kq,Zq]
  grind
 refine ⟨hs,fun a b hab=> ?_⟩
 induction hab with
 | one h =>
  obtain ⟨p,hp,e1,e2⟩:=h;have:=key p hp p.1.toNat (.inl rfl)
  grind
 | more _ h ih =>
  obtain ⟨p,hp,e1,e2⟩:=h;have:=key p hp _ (.inr (by rw [e1];exact ih))
  grind
theorem Clo.uniq {n be out out'} (hv:Val n be) (h:Clo n be out) (h':Clo n be out'):out=out':=by
 apply UK (by rw [h.len,h'.len]);intro b h1 h2;rw [<- Zi h1,<- Zi h2];apply CG;intro a;rw [Wx];rw [h.len] at h1;exact ⟨fun e=>h'.cmp a b (h.snd a b h1 e),fun e=>h.cmp a b (h'.snd a b h1 e)⟩
theorem Snd.bound {n be out} (hs:Snd n be out):tot out<=n*pw n:=by
 have:=pG out (pw n) fun i hi=>hs.lt i (by rw [<- hs.len];exact hi);rwa [hs.len] at this
theorem iI {n be} (hv:Val n be): ∀(k:Nat) (out:List Nat),Snd n be out->n*pw n-tot out<k-> ∃out',Clo n be out'
 | 0,out,_,h=>Za
 | k+1,out,hs,h=>by
  by_cases he:tot (E7 out be)=tot out
  ·exact ⟨out,hs.clo hv he⟩
  ·have hp:=hs.rnd hv be fun _ h=>h;have:=hp.bound;have:=(C0 hv be out (fun _ h=>h) hs).1;exact iI hv k (E7 out be) hp Za
noncomputable def Kt (n:Nat) (be:List (Int×Int)):List Nat:=open Classical in if h: ∃out,Clo n be out then h.choose else []
theorem FD {n be} (hv:Val n be):Clo n be (Kt n be):=by
 have h:=iI hv _ (List.replicate n 0) (Snd.zero n be) (Nat.lt_succ_self _);rw [Kt,dif_pos h]
 grind
theorem iH {n be out} (hv:Val n be) (h:Clo n be out):Kt n be=out:=(FD hv).uniq hv h
theorem U9 {n be} (hv:Val n be) (a b:Nat) (hb:b<n):(nth (Kt n be) b).testBit a=true↔Ch be a b :=
 ⟨(FD hv).snd a b hb,(FD hv).cmp a b⟩
end Go.Proofs.YtjkkdmeebhjaiaaGreatDoor.K
