/- Declarations that the closing texts need, part 4: joined by tools/slim.py. -/
import Derived.Test.YtenjikkmmibffaaGreatDoorI3
set_option linter.unusedVariables false
set_option linter.unusedSimpArgs false
universe u
namespace Go.AM
open Go.RowKit
structure Tk {α:Sort u} (a:α):Type where
def Zu {α:Sort u} (a:α) (_:Tk a):α:=a
@[go_sem] theorem ZeD {α β:Type} {f:α->β} {t x} :Zu f t x=f x:=Zl rfl rfl
@[go_sem ↓] theorem ZeE {α β:Type} {f:α->β->Prop} {t x y} :Zu f t x y=f x y:=Zl rfl rfl
@[go_sem ↓] theorem ZeF {α β γ:Type} {f:α->β->γ->Prop} {t x y z} :Zu f t x y z=f x y z:=Zl rfl rfl
def Bz (x:Option V) (K:V->Prop):Prop:=match x with | some v=>K v | none=>False
def Bb (x:Option (V×List Obj)) (K:V->List Obj->Prop):Prop:=match x with | some (v,H)=>K v H | none=>False
def bst (x:V) (K:Bool->Prop):Prop:=match x with | .p (.bool b)=>K b | _=>False
def hst (x:Option (List Obj)) (K:List Obj->Prop):Prop:=match x with | some H=>K H | none=>False
@[go_sem ↓, go_sem] theorem Zju {v K} :Bz (some v) K=K v:=Zl rfl rfl
@[go_sem ↓, go_sem] theorem Zja {v H K} :Bb (some (v,H)) K=K v H:=Zl rfl rfl
@[go_sem ↓, go_sem] theorem ZhS {H K} :hst (some H) K=K H:=Zl rfl rfl
@[congr] theorem ZeW {x x' K} (h:x=x'):Bz x K=Bz x' K:=by rw [h]
@[congr] theorem ZeP {x x' K} (h:x=x'):Bb x K=Bb x' K:=by rw [h]
@[congr] theorem ZeI {x x' K} (h:x=x'):hst x K=hst x' K:=by rw [h]
def Lc (fr:List V):List V:=fr
@[go_sem] theorem Znn {fr} :Lc fr=fr:=Zl rfl rfl
section code
variable {cuts : List Nat} {P : Program} {fr : List V} {H : List Obj} {Q : Exit -> List V -> List Obj -> Prop}
@[go_sem ↓] theorem Zer : JD cuts P .skip fr H Q=Q .normal fr H:=Zl rfl rfl
@[go_sem ↓] theorem vO {id} {l:List Oper} :JD cuts P (.region id l.toArray false) fr H Q=YL P (l.map (·.dst)) l (Lc fr) H (Zu (Q .normal) ⟨⟩):=by rfl
@[go_sem ↓] theorem yP {id ops} :JD cuts P (.region id ops true) fr H Q=AWP P (.region id (Zu ops ⟨⟩) true) fr H (Zu Q ⟨⟩):=by rfl
@[go_sem ↓] theorem Zhg {x y} :JD [] P (.seq x y) fr H Q=JD [] P x fr H (QI (fun fr H=>JD [] P y fr H Q) Q):=by
 grind [JD]
def mN (b:Bool) (A B:Prop):Prop:=if b then A else B
def MH (cuts:List Nat):Option Nat->Bool
 | some i=>cuts.contains i
 | none=>false
@[go_sem ↓] theorem Zeq {k x y} :JD (k::cuts) P (.seq x y) fr H Q=mN (MH (k::cuts) (M4 x)) (Zu (AWP P (.seq (Zu x ⟨⟩) (Zu y ⟨⟩)) fr H (Zu Q ⟨⟩)) ⟨⟩) (Zu (JD (k::cuts) P x fr H (QI (fun fr H=>JD (k::cuts) P y fr H Q) Q)) ⟨⟩):=by
 rfl
@[go_sem ↓, go_sem] theorem ZeZ {A B:Prop} {t} :mN true (Zu A t) B=A:=by rfl
@[go_sem ↓, go_sem] theorem Zc8 {A B:Prop} {t} :mN false A (Zu B t)=B:=by rfl
theorem P0 {b b' A B} (h:b=b'):mN b A B=mN b' A B:=by rw [h]
@[go_sem ↓] theorem zV {id ops d} :M4 (.region id ops d)=some id:=Zl rfl rfl
@[go_sem ↓] theorem ZlG {x y} :M4 (.seq x y)=M4 x:=Zl rfl rfl
@[go_sem ↓] theorem ZeC {id c} :M4 (.block id c)=M4 c:=Zl rfl rfl
@[go_sem ↓] theorem ZhN {c x y} :M4 (.cond c x y)=none:=Zl rfl rfl
@[go_sem ↓] theorem ZhP {c} :M4 (.loop c)=none:=Zl rfl rfl
@[go_sem] theorem zJ : MH cuts none=false:=Zl rfl rfl
@[go_sem] theorem Zew {i} :MH [] (some i)=false:=Zl rfl rfl
@[go_sem] theorem zH {k i} :MH (k::cuts) (some i)=(decide (i=k)||MH cuts (some i)):=by rfl
@[go_sem ↓] theorem Zem {c x y} :JD cuts P (.cond c x y) fr H Q=UH (ev fr c) (Zu (JD cuts P x fr H Q) ⟨⟩) (Zu (JD cuts P y fr H Q) ⟨⟩):=Zl rfl rfl
@[go_sem ↓] theorem yO {id c} :JD cuts P (.block id c) fr H Q=JD cuts P c fr H (QR id Q):=Zl rfl rfl
@[go_sem ↓] theorem Zen {id} :JD cuts P (.exit id) fr H Q=Q (.exit id) fr H:=Zl rfl rfl
@[go_sem ↓] theorem Zhf : JD cuts P .ret fr H Q=Q .ret fr H:=Zl rfl rfl
@[go_sem ↓] theorem Zep {c} :JD cuts P (.loop c) fr H Q=AWP P (.loop (Zu c ⟨⟩)) fr H (Zu Q ⟨⟩):=Zl rfl rfl
@[go_sem ↓] theorem Zeo {c t} :JD cuts P (Zu c t) fr H Q=JD cuts P c fr H Q:=Zl rfl rfl
theorem Tq {c fr' H'} (h:fr=fr') (h2:H=H'):JD cuts P c fr H Q=JD cuts P c fr' H' Q:=by rw [h,h2]
theorem S1 {c fr' H'} (h:fr=fr') (h2:H=H'):AWP P c fr H Q=AWP P c fr' H' Q:=by rw [h,h2]
@[go_sem ↓] theorem uF {A:List V->List Obj->Prop} :QI A Q .normal fr H=A fr H:=Zl rfl rfl
@[go_sem ↓] theorem Zdh {A:List V->List Obj->Prop} {id} :QI A Q (.exit id) fr H=Q (.exit id) fr H:=Zl rfl rfl
@[go_sem ↓] theorem Zf2 {A:List V->List Obj->Prop} :QI A Q .ret fr H=Q .ret fr H:=Zl rfl rfl
@[go_sem ↓] theorem oA {id} :QR id Q .normal fr H=Q .normal fr H:=Zl rfl rfl
@[go_sem ↓] theorem yS {id} :QR id Q .ret fr H=Q .ret fr H:=Zl rfl rfl
@[go_sem ↓] theorem vR {id id'} :QR id Q (.exit id') fr H=if id'=id then Q .normal fr H else Q (.exit id') fr H:=Zl rfl rfl
theorem Oa {A:List V->List Obj->Prop} {e fr' H'} (h:fr=fr') (h2:H=H'):QI A Q e fr H=QI A Q e fr' H':=by rw [h,h2]
theorem IQ {id e fr' H'} (h:fr=fr') (h2:H=H'):QR id Q e fr H=QR id Q e fr' H':=by rw [h,h2]
@[go_sem ↓] theorem wS {rs} {Q:V->List Obj->Prop} :BB P rs Q .normal fr H=Bb ((Wt P fr H rs).map fun xs=>(Q5 xs,H)) (Zu Q ⟨⟩):=by
 simp only [BB,Zu];grind [Bb]
@[go_sem ↓] theorem ZjA {rs} {Q:V->List Obj->Prop} :BB P rs Q .ret fr H=Bb ((Wt P fr H rs).map fun xs=>(Q5 xs,H)) (Zu Q ⟨⟩):=by
 simp only [BB,Zu];grind [Bb]
theorem PW {rs e fr' H'} {Q:V->List Obj->Prop} (h:fr=fr') (h2:H=H'):BB P rs Q e fr H=BB P rs Q e fr' H':=by rw [h,h2]
@[go_sem] theorem Zc2 : Wt P fr H []=some []:=Zl rfl rfl
@[go_sem] theorem Zc3 {t l} :Wt P fr H (.tmp t::l)=(Wt P fr H l).map (gt fr t:: ·):=by
 simp only [Wt,bH];cases Wt P fr H l<;>rfl
@[go_sem] theorem wQ {a t l} :Wt P fr H (.cell a t::l)=(Jd P H t (gt fr a)).bind fun x=>(Wt P fr H l).map (x:: ·):=by
 simp only [Wt,bH];cases Jd P H t (gt fr a)<;>cases Wt P fr H l<;>rfl
@[go_sem] theorem Zc4 {x} :Q5 [x]=x:=Zl rfl rfl
@[go_sem] theorem wR : Q5 []= .tup []:=Zl rfl rfl
@[go_sem] theorem PU {x y l} :Q5 (x::y::l)= .tup (x::y::l):=Zl rfl rfl
end code
attribute [congr] P0 Tq S1 Oa IQ PW
@[go_sem] theorem ZlE {x:V} {l} :gt (x::l) 0=x:=Zl rfl rfl
@[go_sem] theorem ZlD {x:V} {l n} :gt (x::l) (n+1)=gt l n:=Zl rfl rfl
@[go_sem] theorem Znk {n} :gt [] n= .junk:=Zl rfl rfl
@[go_sem] theorem ZlZ {x v:V} {l} :pt (x::l) 0 v=v::l:=Zl rfl rfl
@[go_sem] theorem ZlY {x v:V} {l n} :pt (x::l) (n+1) v=x::pt l n v:=Zl rfl rfl
@[go_sem] theorem Zjw {fr d v} :UF fr (some d) v=pt fr d v:=Zl rfl rfl
@[go_sem] theorem Zjv {fr v} :UF fr none v=fr:=Zl rfl rfl
@[go_sem] theorem Zjf {x:Obj} {l} :oat (x::l) 0=x:=Zl rfl rfl
@[go_sem] theorem Zje {x:Obj} {l n} :oat (x::l) (n+1)=oat l n:=Zl rfl rfl
@[go_sem] theorem Zjp {x v:Obj} {l} :F0 (x::l) 0 v=v::l:=Zl rfl rfl
@[go_sem] theorem Zjo {x v:Obj} {l n} :F0 (x::l) (n+1) v=x::F0 l n v:=Zl rfl rfl
@[go_sem] theorem Zls {fr t} :evx fr (.tmp t)=gt fr t:=Zl rfl rfl
@[go_sem] theorem zP {fr g} :evx fr (.global g)=iZ g:=Zl rfl rfl
@[go_sem] theorem Zm9 {fr t} :ev fr (.tmp t)=gt fr t:=Zl rfl rfl
@[go_sem] theorem Zlp {fr f} :ev fr (.func f)= .fn (.func f) [] []:=Zl rfl rfl
@[go_sem] theorem Zm7 {fr k n} :ev fr (.const (.int k n))= .p (.int k n):=Zl rfl rfl
@[go_sem] theorem Zlo {fr b} :ev fr (.const (.bool b))= .p (.bool b):=Zl rfl rfl
@[go_sem] theorem Zm8 {fr s} :ev fr (.const (.string s))= .p (.str s.data.toList):=Zl rfl rfl
@[go_sem] theorem Zlr {fr} :ev fr (.const (.slice none 0 0))= .p (.list true []):=Zl rfl rfl
@[go_sem] theorem Zlq {fr} :ev fr (.const (.pointer none))= .p .nilp:=Zl rfl rfl
@[go_sem] theorem Zm6 {fr l} :ev fr (.const (.agg (List.toArray l)))=match zK l with | some xs=> .p (.agg xs) | none=> .junk:=Zl rfl rfl
@[go_sem] theorem ZhG {fr d} {l:List (Option Nat)} :FF fr (some d::l) 0=gt fr d:=by simp [FF]
@[go_sem] theorem ZhF {fr o n} {l:List (Option Nat)} :FF fr (o::l) (n+1)=FF fr l n:=by simp [FF]
section ops
variable {P : Program} {fr : List V} {H : List Obj} {ds : List (Option Nat)} {K : List V -> List Obj -> Prop} {r : List Oper} {d : Option Nat} {t : TypeId} {ps : String} {af : Array Edge} {g : Option (Nat × Bool)} {k : V -> List Obj -> Prop}
theorem OI {l fr' H'} (h:fr=fr') (h2:H=H'):YL P ds l fr H K=YL P ds l fr' H' K:=by rw [h,h2]
theorem Ms {o fr' H'} (h:fr=fr') (h2:H=H'):Zw P o fr H k=Zw P o fr' H' k:=by rw [h,h2]
@[go_sem ↓] theorem Zg4 : YL P ds [] fr H K=K fr H:=Zl rfl rfl
@[go_sem] theorem Zd6 {op} :YL P ds (⟨d,op,t,ps,af,none⟩::r) fr H K=Zw P ⟨d,op,t,ps,af,none⟩ fr H (Zu (fun x H'=>YL P ds r (UF fr d x) H' K) ⟨⟩):=Zl rfl rfl
@[go_sem] theorem xQ {op j b} :YL P ds (⟨d,op,t,ps,af,some (j,b)⟩::r) fr H K=XS (FF fr ds j) b (Zu (Zw P ⟨d,op,t,ps,af,none⟩ fr H (Zu (fun x H'=>YL P ds r (UF fr d x) H' K) ⟨⟩)) ⟨⟩) (Zu (YL P ds r (UF fr d (.tup [])) H K) ⟨⟩):=by
 rfl
theorem XT {op:Op} (h:Y5 op=none) (h2:W6 P op fr H=none):Zw P ⟨d,op,t,ps,af,g⟩ fr H k=Bz (Xc P op fr H) fun x=>k x H:=by
 simp only [Zw,h,Mb,h2]
 all_goals (cases Xc P op fr H<;>rfl)
theorem Tn {op:Op} (h:Y5 op=none) (h2:Xc P op fr H=none):Zw P ⟨d,op,t,ps,af,g⟩ fr H k=Bb (W6 P op fr H) k:=by
 grind [Zw,Mb,Bb]
@[go_sem ↓] theorem yJ {x} :Zw P ⟨d,.move x,t,ps,af,g⟩ fr H k=k (ev fr x) H:=by rfl
@[go_sem ↓] theorem pQ {x} :Zw P ⟨d,.assign x,t,ps,af,g⟩ fr H k=k (ev fr x) H:=by rfl
def vif (b:Bool) (x y:V):V:=if b then x else y
@[go_sem] theorem ZkB {x y} :vif true x y=x:=Zl rfl rfl
@[go_sem] theorem Zf3 {x y} :vif false x y=y:=Zl rfl rfl
@[go_sem] theorem ZkA {b x y} :vif b (.p (.bool x)) (.p (.bool y))= .p (.bool (if b then x else y)):=by cases b<;>rfl
@[go_sem] theorem Zg9 {b} :xZ (.p (.bool b))=some b:=Zl rfl rfl
@[go_sem ↓] theorem yL {c x y} :Zw P ⟨d,.pick c x y,t,ps,af,g⟩ fr H k=Bz ((xZ (ev fr c)).map fun b=>vif b (ev fr x) (ev fr y)) (Zu (fun v=>k v H) ⟨⟩):=by
 rw [XT rfl rfl];simp only [Xc,Ya]
 cases xZ (ev fr c)<;>rfl
@[go_sem ↓] theorem yI {u x} :Zw P ⟨d,.load u x,t,ps,af,g⟩ fr H k=Bz (Jd P H u (ev fr x)) (Zu (fun v=>k v H) ⟨⟩):=by rw [XT rfl rfl];rfl
@[go_sem ↓] theorem eM {x} :Zw P ⟨d,.nilCheck x,t,ps,af,g⟩ fr H k=Bz (if Ww H (ev fr x)||jL (ev fr x) then some (ev fr x) else none) (Zu (fun v=>k v H) ⟨⟩):=by rw [XT rfl rfl];rfl
@[go_sem ↓] theorem Zef {op u x y u2} :Zw P ⟨d,.binOp op u x y u2,t,ps,af,g⟩ fr H k=Bz ((Yk P op u (ev fr x) (ev fr y)).map .p) (Zu (fun v=>k v H) ⟨⟩):=by rw [XT rfl rfl];rfl
@[go_sem ↓] theorem Zhd {op u x} :Zw P ⟨d,.unOp op u x,t,ps,af,g⟩ fr H k=Bz ((aun op (ev fr x)).map .p) (Zu (fun v=>k v H) ⟨⟩):=by rw [XT rfl rfl];rfl
def kM (x y:Option PV):Option PV:=match x with | some z=>some z | none=>y
@[go_sem] theorem ZcK {z y} :kM (some z) y=some z:=Zl rfl rfl
@[go_sem] theorem ZcJ {y} :kM none y=y:=Zl rfl rfl
@[go_sem ↓] theorem yH {s u x} :Zw P ⟨d,.convert s u x,t,ps,af,g⟩ fr H k=Bz ((kM (Dd P H s u (ev fr x)) (Mh P s u (ev fr x))).map .p) (Zu (fun v=>k v H) ⟨⟩):=by
 rw [XT rfl rfl];simp only [Xc,Ya]
 cases Dd P H s u (ev fr x)<;>rfl
@[go_sem ↓] theorem eL {f cs es} :Zw P ⟨d,.makeFunc f (List.toArray cs) (List.toArray es),t,ps,af,g⟩ fr H k=k (.fn f (cs.map (ev fr)) (es.map (ev fr))) H:=by rfl
@[go_sem ↓] theorem vM {u x lo hi mx} :Zw P ⟨d,.slice u x lo hi mx,t,ps,af,g⟩ fr H k=Bz (Vc P H u fr (ev fr x) lo hi mx) (Zu (fun v=>k v H) ⟨⟩):=by rw [XT rfl rfl];rfl
@[go_sem ↓] theorem cR {s x f} :Zw P ⟨d,.fieldAddr s x f,t,ps,af,g⟩ fr H k=Bz (Jz P H s f (ev fr x)) (Zu (fun v=>k v H) ⟨⟩):=by rw [XT rfl rfl];rfl
@[go_sem ↓] theorem cS {u x i} :Zw P ⟨d,.indexAddr u x i,t,ps,af,g⟩ fr H k=Bz (QM P H u (evx fr x) (ev fr i)) (Zu (fun v=>k v H) ⟨⟩):=by rw [XT rfl rfl];rfl
@[go_sem ↓] theorem vL {u x i} :Zw P ⟨d,.index u x i,t,ps,af,g⟩ fr H k=Bz (Mj P u (ev fr x) (ev fr i)) (Zu (fun v=>k v H) ⟨⟩):=by rw [XT rfl rfl];rfl
def axt (x:V) (i:Nat):Option V:=match x with | .tup vs=>vs[i]? | _=>none
@[go_sem] theorem Zk6 {vs i} :axt (.tup vs) i=vs[i]? :=Zl rfl rfl
@[go_sem ↓] theorem nY {x i} :Zw P ⟨d,.extract x i,t,ps,af,g⟩ fr H k=Bz (axt (ev fr x) i) (Zu (fun v=>k v H) ⟨⟩):=by
 rw [XT rfl rfl]
 rfl
@[go_sem ↓] theorem vK {u l} :Zw P ⟨d,.build u (List.toArray l),t,ps,af,g⟩ fr H k=Bz (E3 P H u (l.map fun x=>(x.1,ev fr x.2))) (Zu (fun v=>k v H) ⟨⟩):=by rw [XT rfl rfl];rfl
@[go_sem ↓] theorem Zeh {x u} :Zw P ⟨d,.call ⟨.builtin .len,#[x],#[u]⟩,t,ps,af,g⟩ fr H k=Bz ((dV P H u (ev fr x)).map .p) (Zu (fun v=>k v H) ⟨⟩):=by rw [XT rfl rfl];rfl
@[go_sem ↓] theorem Zei {x y us} :Zw P ⟨d,.call ⟨.builtin .max,#[x,y],us⟩,t,ps,af,g⟩ fr H k=Bz ((IA false [ev fr x,ev fr y]).map .p) (Zu (fun v=>k v H) ⟨⟩):=by
 rw [XT rfl rfl];rfl
@[go_sem ↓] theorem vJ {u} :Zw P ⟨d,.alloc u,t,ps,af,g⟩ fr H k=Bb ((Xi P u).map fun zs=>(.ptr H.length 0,H++ [.cells (zs.map .p)])) (Zu k ⟨⟩):=by rfl
@[go_sem ↓] theorem Zeg {u x} :Zw P ⟨d,.box u x,t,ps,af,g⟩ fr H k=Bb ((vc H (ev fr x)).map fun cs=>(.ptr H.length 0,H++ [.cells cs])) (Zu k ⟨⟩):=by rfl
def yN (H:List Obj) (n:Option Nat) (a:V) (cs:Option (List V)):Option (List Obj):=n.bind fun n=>cs.bind fun cs=>Bj H n a cs
@[go_sem] theorem Zek {n a cs} :yN H (some n) a (some cs)=Bj H n a cs:=Zl rfl rfl
@[go_sem ↓] theorem vN {u x y} :Zw P ⟨d,.store u x y,t,ps,af,g⟩ fr H k=hst (yN H (Y2 P u) (ev fr x) (vc H (ev fr y))) (Zu (k .junk) ⟨⟩):=by
 rw [Tn rfl rfl];simp only [W6,yN]
 cases Y2 P u<;>cases vc H (ev fr y)<;>simp [hst,Bb,Zu]
 grind
@[go_sem ↓] theorem Tm {u n l} :Zw P ⟨d,.buildSlice u n (List.toArray l),t,ps,af,g⟩ fr H k=Bb (W6 P (.buildSlice u n (List.toArray l)) fr H) (Zu k ⟨⟩):=by rfl
@[go_sem ↓] theorem nZ {u} :Zw P ⟨d,.makeMap u none,t,ps,af,g⟩ fr H k=k (.mp H.length) (H++ [.map []]):=by rfl
@[go_sem ↓] theorem pR {u x y ok} :Zw P ⟨d,.lookup u x y ok,t,ps,af,g⟩ fr H k=Bb (BV P H u (ev fr x) (ev fr y) ok) (Zu k ⟨⟩):=by rfl
@[go_sem ↓] theorem yK {u x y z} :Zw P ⟨d,.mapUpdate u x y z,t,ps,af,g⟩ fr H k=Bb (DX P H u (ev fr x) (ev fr y) (ev fr z)) (Zu k ⟨⟩):=by rfl
@[go_sem ↓] theorem cU {u x y} :Zw P ⟨d,.makeSlice u x y,t,ps,af,g⟩ fr H k=Bb (W6 P (.makeSlice u x y) fr H) (Zu k ⟨⟩):=by rfl
@[go_sem ↓] theorem pP {x y u u2} :Zw P ⟨d,.call ⟨.builtin .append,#[x,y],#[u,u2]⟩,t,ps,af,g⟩ fr H k=Bb (W5 P H u u2 (ev fr x) (ev fr y)) (Zu k ⟨⟩):=by rfl
@[go_sem ↓] theorem yG {f azs ts} :Zw P ⟨d,.call ⟨.value f,List.toArray azs,ts⟩,t,ps,af,g⟩ fr H k=DW P (ev fr f) (azs.map (ev fr)) H (Zu k ⟨⟩):=Zl rfl rfl
@[go_sem ↓] theorem ZgT {f fs cs azs} :DW P (.fn (.func f) fs cs) azs H k=ACalls P f (fs++azs++cs) H k:=Zl rfl rfl
@[go_sem ↓] theorem ZdI {f azs} :DW P (.p (.fn f)) azs H k=ACalls P f azs H k:=Zl rfl rfl
theorem Mf {f f' azs as'} (h:f=f') (h2:azs=as'):DW P f azs H k=DW P f' as' H k:=by rw [h,h2]
theorem Ir {f azs as' H'} (h2:azs=as') (h3:H=H'):ACalls P f azs H k=ACalls P f as' H' k:=by rw [h2,h3]
theorem Mg {x x' A B} (h:x=x'):UH x A B=UH x' A B:=by rw [h]
theorem Ix {x x' b A B} (h:x=x'):XS x b A B=XS x' b A B:=by rw [h]
@[go_sem ↓, go_sem] theorem xF {A:Prop} {t B'} :UH (.p (.bool true)) (Zu A t) B'=A:=by simp [UH,Zu]
@[go_sem ↓, go_sem] theorem uX {B:Prop} {t B'} :UH (.p (.bool false)) B' (Zu B t)=B:=by simp [UH,Zu]
@[go_sem ↓, go_sem] theorem ZdS {A:Prop} {t B} :XS (.p (.bool true)) true (Zu A t) B=A:=by simp [XS,Zu]
@[go_sem ↓, go_sem] theorem ZdR {B:Prop} {t A} :XS (.p (.bool true)) false A (Zu B t)=B:=by simp [XS,Zu]
@[go_sem ↓, go_sem] theorem ZdQ {B:Prop} {t A} :XS (.p (.bool false)) true A (Zu B t)=B:=by simp [XS,Zu]
@[go_sem ↓, go_sem] theorem ZdP {A:Prop} {t B} :XS (.p (.bool false)) false (Zu A t) B=A:=by simp [XS,Zu]
@[go_sem ↓, go_sem] theorem uZ {b} {B:Prop} {t A} :XS (.tup []) b A (Zu B t)=B:=by rfl
theorem UO {c:Bool} {A B:Prop} {t t'} (h1:c=true->A) (h2:c=false->B):UH (.p (.bool c)) (Zu A t) (Zu B t'):=⟨h1,h2⟩
theorem Vy {c:Bool} {A B:Prop} {t t'} (h1:c=true->A) (h2:c=false->B):XS (.p (.bool c)) true (Zu A t) (Zu B t'):=⟨h1,fun h=>h2 (by simpa using h)⟩
theorem Ue {c:Bool} {A B:Prop} {t t'} (h1:c=true->B) (h2:c=false->A):XS (.p (.bool c)) false (Zu A t) (Zu B t'):=⟨h2,fun h=>h1 (by simpa using h)⟩
theorem Zc {P Q:Prop} (h:Q) (e:Q->P:=by intro h;simp (disch:=omega) only [go_sem,seval];exact h):P:=e h
class Dc (c:Bool) (p q:outParam Prop):Prop where
 t:c=true->p
 f:c=false->q
instance dcD {p : Prop} [Decidable p] : Dc (decide p) p (¬p) := ⟨Av, of_decide_eq_false⟩
instance (priority := low) dcB {c : Bool} : Dc c (c = true) (c = false) := ⟨id, id⟩
theorem cD {c:Bool} {A B p q:Prop} {t t'} [d:Dc c p q] (h1:p->A) (h2:q->B):UH (.p (.bool c)) (Zu A t) (Zu B t'):=UO (fun h=>h1 (d.t h)) (fun h=>h2 (d.f h))
theorem gT {c:Bool} {A B p q:Prop} {t t'} [d:Dc c p q] (h1:p->A) (h2:q->B):XS (.p (.bool c)) true (Zu A t) (Zu B t'):=Vy (fun h=>h1 (d.t h)) (fun h=>h2 (d.f h))
theorem gF {c:Bool} {A B p q:Prop} {t t'} [d:Dc c p q] (h1:p->B) (h2:q->A):XS (.p (.bool c)) false (Zu A t) (Zu B t'):=Ue (fun h=>h1 (d.t h)) (fun h=>h2 (d.f h))
@[go_sem] theorem ZlU {p:Prop} [Decidable p]:(!decide p)=decide (¬p):=Zb
end ops
attribute [congr] OI Ms Mf Ir Mg Ix
section vals
variable {P : Program} {H : List Obj} {k : IntKind} {t u : TypeId}
@[go_sem] theorem ZgI {a b} :Yk P .add t (.p (.int k a)) (.p (.int k b))=some (.int k (k.wrap (a+b))):=by simp [Yk,QX]
@[go_sem] theorem ZgS {a b} :Yk P .sub t (.p (.int k a)) (.p (.int k b))=some (.int k (k.wrap (a-b))):=by simp [Yk,QX]
@[go_sem] theorem dJ {a b} :Yk P .mul t (.p (.int k a)) (.p (.int k b))=some (.int k (k.wrap (a*b))):=by simp [Yk,QX]
@[go_sem] theorem dL {a b} (h:b≠0):Yk P .quo t (.p (.int k a)) (.p (.int k b))=some (.int k (k.wrap (a.tdiv b))):=by simp [Yk,QX,h]
@[go_sem] theorem ZgQ {a b} (h:b≠0):Yk P .rem t (.p (.int k a)) (.p (.int k b))=some (.int k (a.tmod b)):=by simp [Yk,QX,h]
@[go_sem] theorem dI {a b} :Yk P .and t (.p (.int k a)) (.p (.int k b))=some (.int k (k.wrap ((BitVec.ofInt k.bits a&&&BitVec.ofInt k.bits b).toNat:Int))):=by simp [Yk,QX]
@[go_sem] theorem Ri {a b} :Yk P .or t (.p (.int k a)) (.p (.int k b))=some (.int k (k.wrap ((BitVec.ofInt k.bits a|||BitVec.ofInt k.bits b).toNat:Int))):=by simp [Yk,QX]
@[go_sem] theorem uV {a b} :Yk P .andNot t (.p (.int k a)) (.p (.int k b))=some (.int k (k.wrap ((BitVec.ofInt k.bits a&&& ~~~(BitVec.ofInt k.bits b)).toNat:Int))):=by simp [Yk,QX]
@[go_sem] theorem ZgK {a b} :Yk P .eql t (.p (.int k a)) (.p (.int k b))=some (.bool (decide (a=b))):=by simp [Yk,QX]
@[go_sem] theorem ZgP {a b} :Yk P .neq t (.p (.int k a)) (.p (.int k b))=some (.bool (decide (¬a=b))):=by simp [Yk,QX]
@[go_sem] theorem ZgO {a b} :Yk P .lss t (.p (.int k a)) (.p (.int k b))=some (.bool (decide (a<b))):=by simp [Yk,QX]
@[go_sem] theorem ZgN {a b} :Yk P .leq t (.p (.int k a)) (.p (.int k b))=some (.bool (decide (a<=b))):=by simp [Yk,QX]
@[go_sem] theorem ZgM {a b} :Yk P .gtr t (.p (.int k a)) (.p (.int k b))=some (.bool (decide (b<a))):=by simp [Yk,QX]
@[go_sem] theorem ZgL {a b} :Yk P .geq t (.p (.int k a)) (.p (.int k b))=some (.bool (decide (b<=a))):=by simp [Yk,QX]
@[go_sem] theorem dM {a b k'} (h:0<=b):Yk P .shl t (.p (.int k a)) (.p (.int k' b))=some (.int k (k.wrap (a*2^(min b.toNat k.bits)))):=by grind [Yk,QX]
@[go_sem] theorem dN {a b k'} (h:0<=b):Yk P .shr t (.p (.int k a)) (.p (.int k' b))=some (.int k (a.fdiv (2^(min b.toNat k.bits)))):=by grind [Yk,QX]
@[go_sem] theorem ZgR {op a b} :Yk P op t (.p (.str a)) (.p (.str b))=LQ op a b:=Zl rfl rfl
@[go_sem] theorem ZjD {a b} :LQ .eql a b=some (.bool (decide (a=b))):=Zl rfl rfl
@[go_sem] theorem ZjE {a b} :LQ .neq a b=some (.bool (decide (¬a=b))):=by simp [LQ]
@[go_sem] theorem mL {a b} (h:a.length+b.length<=9223372036854775807):LQ .add a b=some (.str (a++b)):=by simp [LQ,h]
def Zqs (op:BinOp) (u:Option TypeDesc) (a b:Bool):Option PV:=match op,u with
  | .eql,some .bool=>some (.bool (a==b))
  | .neq,some .bool=>some (.bool (!(a==b)))
  | _,_=>none
end vals
attribute [irreducible] Bz Bb hst bst
end Go.AM
namespace Go.AM
open Go.RowKit
section vals
variable {P : Program} {H : List Obj} {k : IntKind} {t u : TypeId}
def zR (g:Bool) (op:BinOp) (r:Option Bool):Option PV:=if g then none else match op with
 | .eql=>r.map .bool
 | .neq=>r.map fun r=> .bool (!r)
 | _=>none
@[go_sem] theorem ZgJ {op a b} :Yk P op t (.p (.agg a)) (.p (.agg b))=zR (P.eqGuardType P.depth t) op (Vx P 9 t (.agg a) (.agg b)):=Zl rfl rfl
@[go_sem] theorem ZhH {b} :zR false .eql (some b)=some (.bool b):=Zl rfl rfl
@[go_sem] theorem ZhI {b} :zR false .neq (some b)=some (.bool (!b)):=Zl rfl rfl
def GR (P:Program) (d:Nat) (t:TypeId) (D:Option TypeDesc) (x y:PV):Option Bool:=match D,x,y with
  | some .bool,.bool a,.bool b=>some (a==b)
  | some (.int _),.int k a,.int k' b=>if k=k' then some (decide (a=b)) else none
  | some .string,.str a,.str b=>some (decide (a=b))
  | some (.struct fs),.agg a,.agg b=>if P.stoodInHeld t then none else BP (Vx P d) P fs.toList a b
  | some (.array n e),.agg a,.agg b=>match Y2 P e with | some m=>S8 (Vx P d e) P e m n 0 a b | none=>none
  | _,_,_=>none
@[go_sem] theorem ZdM {d x y} :Vx P (d+1) t x y=GR P d t (P.underlying t) x y:=Zl rfl rfl
@[go_sem] theorem ZdL {d a b} :GR P d t (some .bool) (.bool a) (.bool b)=some (a==b):=Zl rfl rfl
@[go_sem] theorem ZgV {d k0 a b} :GR P d t (some (.int k0)) (.int k a) (.int k b)=some (decide (a=b)):=by simp [GR]
theorem Qs {d fs a b} (h:P.stoodInHeld t=false):GR P d t (some (.struct fs)) (.agg a) (.agg b)=BP (Vx P d) P fs.toList a b:=by simp [GR,h]
def Em (x y:Option Bool):Option Bool:=x.bind fun p=>y.map fun q=>p&&q
@[go_sem] theorem ZeT {p q} :Em (some p) (some q)=some (p&&q):=Zl rfl rfl
def cW (f:PV->PV->Option Bool) (x y:Option PV):Option Bool:=x.bind fun x=>y.bind fun y=>f x y
@[go_sem] theorem Zhx {f x y} :cW f (some x) (some y)=f x y:=Zl rfl rfl
@[go_sem] theorem BQ {f a b} :BP f P [] a b=some true:=Zl rfl rfl
@[go_sem] theorem K9 {f fi r a b} : BP f P (fi :: r) a b = if fi.name = "_" then BP f P r a b else Em (cW (f fi.type) (apart P fi.type a fi.offset) (apart P fi.type b fi.offset)) (BP f P r a b) := by
 simp only [BP]
 split
 ·rfl
 ·cases apart P fi.type a fi.offset<;>cases apart P fi.type b fi.offset<;>simp [cW,Em]
  rename_i x y
  cases f fi.type x y<;>cases BP f P r a b<;>rfl
def Zg6 (g:Option Bool) (s:Option Nat) (cs:List PV) (off:Nat):Option PV:=match g,s with
 | some true,some n=>if off+n<=cs.length then some (.agg ((cs.drop off).take n)) else none
 | some false,_=>cs[off]?
 | _,_=>none
@[go_sem] theorem Zg5 {cs off} :apart P t cs off=Zg6 (XL P t) (Y2 P t) cs off:=Zl rfl rfl
@[go_sem] theorem Zg7 {s cs off} :Zg6 (some false) s cs off=cs[off]? :=Zl rfl rfl
def OF (g:Option Bool) (s:Option Nat) (H:List Obj) (x:V):Option V:=match g,s with
 | some true,some n=>(Uu H x n).map mkA
 | some false,_=>match Uu H x 1 with
  | some (c::_)=>some c
  | _=>none
 | _,_=>none
def hdO (x:Option (List V)):Option V:=match x with | some (c::_)=>some c | _=>none
@[go_sem] theorem ZhM {c l} :hdO (some (c::l))=some c:=Zl rfl rfl
@[go_sem] theorem Zg0 {x} :Jd P H t x=OF (XL P t) (Y2 P t) H x:=Zl rfl rfl
@[go_sem] theorem xP {s x} :OF (some false) s H x=hdO (Uu H x 1):=by rfl
@[go_sem] theorem xO {n x} :OF (some true) (some n) H x=(Uu H x n).map mkA:=Zl rfl rfl
@[go_sem] theorem ZdK {x j n} :Uu H (.lp x j) n=if j+n<=x.cells.length then some (((x.cells.drop j).take n).map .p) else none:=Zl rfl rfl
def lG (ob:Obj) (off n:Nat):Option (List V):=match ob with | .cells cs=>if off+n<=cs.length then some ((cs.drop off).take n) else none | _=>none
@[go_sem] theorem xE {o off n} :Uu H (.ptr o off) n=lG (oat H o) off n:=Zl rfl rfl
@[go_sem] theorem sW {cs off n} :lG (.cells cs) off n=if off+n<=cs.length then some ((cs.drop off).take n) else none:=Zl rfl rfl
def gM (ob:Obj) (i j tot n:Nat):Option (List V):=match ob with
 | .elems _ xs=>if xs.length=tot/\i<xs.length/\j+n<=(Kx xs i).cells.length then some ((((Kx xs i).cells.drop j).take n).map .p) else none
 | _=>none
@[go_sem] theorem ZdJ {o i j tot n} :Uu H (.ep o i j tot) n=gM (oat H o) i j tot n:=Zl rfl rfl
@[go_sem] theorem qR {S xs i j tot n} :gM (.elems S xs) i j tot n=if xs.length=tot/\i<xs.length/\j+n<=(Kx xs i).cells.length then some ((((Kx xs i).cells.drop j).take n).map .p) else none:=Zl rfl rfl
@[go_sem] theorem Zes {cs} :(PV.agg cs).cells=cs:=Zl rfl rfl
@[go_sem] theorem Zeu {n} :(PV.int k n).cells= [.int k n]:=Zl rfl rfl
@[go_sem] theorem yX {b} :(PV.bool b).cells= [.bool b]:=Zl rfl rfl
@[go_sem] theorem Zev {s} :(PV.str s).cells= [.str s]:=Zl rfl rfl
@[go_sem] theorem yY {c xs} :(PV.list c xs).cells= [.list c xs]:=Zl rfl rfl
@[go_sem] theorem ZlW {n} :(PV.int k n).one=true:=Zl rfl rfl
@[go_sem] theorem Zjm {b} :(PV.bool b).one=true:=Zl rfl rfl
@[go_sem] theorem ZlX {s} :(PV.str s).one=true:=Zl rfl rfl
@[go_sem] theorem Zjn {c xs} :(PV.list c xs).one=true:=Zl rfl rfl
@[go_sem] theorem ZnF {cs} :mkA cs=match Qq cs with | some ps=> .p (.agg ps) | none=> .agg cs:=Zl rfl rfl
@[go_sem] theorem ZgZ : Qq []=some []:=Zl rfl rfl
@[go_sem] theorem ZdY {x r} :Qq (.p x::r)=(Qq r).map (x:: ·):=by rfl
def Ep (n:Option Nat) (a:Bool) (x:V):Option V:=match n with | some n=>if a then some (BW n x) else none | none=>none
@[go_sem] theorem ZdN {s f x} :Jz P H s f x=Ep (ZR P s f) (Ww H x) x:=Zl rfl rfl
@[go_sem] theorem oL {n x} :Ep (some n) true x=some (BW n x):=Zl rfl rfl
@[go_sem] theorem Zg3 {n x j} :BW n (.lp x j)= .lp x (j+n):=Zl rfl rfl
@[go_sem] theorem Zd3 {n o off} :BW n (.ptr o off)= .ptr o (off+n):=Zl rfl rfl
@[go_sem] theorem Zg2 {n o i j tot} :BW n (.ep o i j tot)= .ep o i (j+n) tot:=Zl rfl rfl
def R0 (ob:Obj):Bool:=match ob with | .cells _=>true | _=>false
@[go_sem] theorem oC {cs} :R0 (.cells cs)=true:=Zl rfl rfl
def R1 (ob:Obj) (tot:Nat):Bool:=match ob with | .elems _ xs=>decide (xs.length=tot) | _=>false
@[go_sem] theorem oD {S xs tot} :R1 (.elems S xs) tot=decide (xs.length=tot):=Zl rfl rfl
def R4 (ob:Obj) (tot:Nat):Bool:=match ob with | .elems _ xs=>decide (xs.length=tot) | .cells _=>true | _=>false
@[go_sem] theorem wF {S xs tot} :R4 (.elems S xs) tot=decide (xs.length=tot):=Zl rfl rfl
@[go_sem] theorem wE {cs tot} :R4 (.cells cs) tot=true:=Zl rfl rfl
@[go_sem] theorem ZgY {x j} :Ww H (.lp x j)=true:=Zl rfl rfl
@[go_sem] theorem xM {o off} :Ww H (.ptr o off)=R0 (oat H o):=Zl rfl rfl
@[go_sem] theorem ZgX {o i j tot} :Ww H (.ep o i j tot)=R1 (oat H o) tot:=Zl rfl rfl
def UP (e:Option (Option Nat×Nat)) (H:List Obj) (x i:V):Option V:=match e,i with
 | some (none,S),.p (.int _ n)=>match x with
  | .p (.list _ xs)=>if 0<=n/\n<xs.length then (if (Kx xs n.toNat).cells.length=S then some (.lp (Kx xs n.toNat) 0) else none) else none
  | .sl o off len tot=>match oat H o with
   | .elems S' xs=>if xs.length=tot/\S'=S then (if 0<=n/\n<len then some (.ep o (off+n.toNat) 0 tot) else none) else none
   | .cells _=>if S=1/\off=0/\len=tot/\0<=n/\n<len then some (.ptr o n.toNat) else none
   | _=>none
  | _=>none
 | some (some k,S),.p (.int _ n)=>if 0<=n/\n<k then (if Ww H x then some (BW (n.toNat*S) x) else none) else none
 | _,_=>none
@[go_sem] theorem ZdU {x i} :QM P H t x i=UP (Wi P t) H x i:=Zl rfl rfl
theorem Iy {S c xs n} (h0:0<=n) (h1:n<(List.length xs:Int)):UP (some (none,S)) H (.p (.list c xs)) (.p (.int k n))=if (Kx xs n.toNat).cells.length=S then some (.lp (Kx xs n.toNat) 0) else none:=by
 simp_all [UP]
def nth {α:Type} [Inhabited α] (l:List α) (i:Nat):α:=l.getD i default
theorem UR {α:Type} [Inhabited α] {f:α->PV} {l:List α} {i:Nat} (h:i<l.length):Kx (l.map f) i=f (nth l i):=by
 simp [Kx,nth,h]
theorem Zh {α:Type} [Inhabited α] {l:List α} {i:Nat} (h:i<l.length):nth l i=l[i]:=by simp [nth,h]
@[go_sem] theorem vB {α:Type} [Inhabited α] {f:α->PV} {l:List α} {S c n} (h0:0<=n) (h1:n<(l.length:Int)) :
  UP (some (none,S)) H (.p (.list c (l.map f))) (.p (.int k n))=if (f (nth l n.toNat)).cells.length=S then some (.lp (f (nth l n.toNat)) 0) else none:=by
 grind [Iy,UR]
def Gx (ob:Obj) (S o off len tot:Nat) (n:Int):Option V:=match ob with
 | .elems S' xs=>if xs.length=tot/\S'=S then (if 0<=n/\n<len then some (.ep o (off+n.toNat) 0 tot) else none) else none
 | .cells _=>if S=1/\off=0/\len=tot/\0<=n/\n<len then some (.ptr o n.toNat) else none
 | _=>none
@[go_sem] theorem xI {S o off len tot n} :UP (some (none,S)) H (.sl o off len tot) (.p (.int k n))=Gx (oat H o) S o off len tot n:=Zl rfl rfl
@[go_sem] theorem Ze1 {S xs o off} {len tot:Nat} {n:Int} (h0:0<=n) (h1:n<(len:Int)) (ht:xs.length=tot):Gx (.elems S xs) S o off len tot n=some (.ep o (off+n.toNat) 0 tot):=by
 grind [Gx]
@[go_sem] theorem tS {cs o} {len:Nat} {n:Int} (h0:0<=n) (h1:n<(len:Int)):Gx (.cells cs) 1 o 0 len len n=some (.ptr o n.toNat):=by
 grind [Gx]
@[go_sem] theorem vA {n} {m S:Nat} {x} (h0:0<=n) (h1:n<(m:Int)):UP (some (some m,S)) H x (.p (.int k n))=Ep (some (n.toNat*S)) (Ww H x) x:=by
 simp_all [UP,Ep]
def Rj (H:List Obj) (D:Option TypeDesc) (x:V):Option PV:=match D,x with
 | some (.slice _),.p (.list _ xs)=>some (.int .i64 xs.length)
 | some (.slice _),.sl o _ len tot=>match oat H o with
  | .elems _ xs=>if xs.length=tot then some (.int .i64 len) else none
  | _=>none
 | some .string,.p (.str s)=>some (.int .i64 s.length)
 | some (.array n _),_=>some (.int .i64 n)
 | _,_=>none
@[go_sem] theorem ZkX {x} :dV P H t x=Rj H (P.underlying t) x:=Zl rfl rfl
@[go_sem] theorem xJ {e c xs} :Rj H (some (.slice e)) (.p (.list c xs))=some (.int .i64 (List.length xs)):=Zl rfl rfl
def ZjH (ob:Obj) (len tot:Nat):Option PV:=match ob with | .elems _ xs=>if xs.length=tot then some (.int .i64 len) else none | _=>none
@[go_sem] theorem ZgW {e o off len tot} :Rj H (some (.slice e)) (.sl o off len tot)=ZjH (oat H o) len tot:=Zl rfl rfl
@[go_sem] theorem Zda {S xs len tot} :ZjH (.elems S xs) len tot=if xs.length=tot then some (.int .i64 len) else none:=Zl rfl rfl
@[go_sem] theorem ZdX {s} :Rj H (some .string) (.p (.str s))=some (.int .i64 (List.length s)):=Zl rfl rfl
@[go_sem] theorem Zk5 {b} :aun .not (.p (.bool b))=some (.bool (!b)):=Zl rfl rfl
@[go_sem] theorem Zk4 {n} :aun .neg (.p (.int k n))=some (.int k (k.wrap (0-n))):=Zl rfl rfl
def dP (D E:Option TypeDesc) (x:V):Option PV:=match D,E,x with
 | some _,some (.int k),.p (.int _ n)=>some (.int k (k.wrap n))
 | some (.int _),some .string,.p (.int _ n)=>if 0<=n/\n<128 then some (.str [UInt8.ofNat n.toNat]) else none
 | some .string,some .string,.p (.str b)=>some (.str b)
 | _,_,_=>none
@[go_sem] theorem ZgU {s x} :Mh P s t x=dP (P.underlying s) (P.underlying t) x:=Zl rfl rfl
@[go_sem] theorem xG {D k' n} :dP (some D) (some (.int k)) (.p (.int k' n))=some (.int k (k.wrap n)):=by rfl
def Iw (E:Option TypeDesc) (H:List Obj) (x:V):Option PV:=match E,x with
  | some (.int .u8),.p (.list _ xs)=>(Y4 xs).map .str
  | some (.int .u8),.sl o off len tot=>match oat H o with
   | .elems _ xs=>if xs.length=tot/\off+len<=tot then (Y4 ((xs.take (off+len)).drop off)).map .str else none
   | _=>none
  | _,_=>none
def Iv (P:Program) (H:List Obj) (D E:Option TypeDesc) (x:V):Option PV:=match D,E with
 | some (.slice e),some .string=>Iw (P.underlying e) H x
 | _,_=>none
@[go_sem] theorem ZdH {s x} :Dd P H s t x=Iv P H (P.underlying s) (P.underlying t) x:=Zl rfl rfl
@[go_sem] theorem uW {E x} :Iv P H (some (.int k)) E x=none:=Zl rfl rfl
@[go_sem] theorem nU {e x} :Iv P H (some (.slice e)) (some .string) x=Iw (P.underlying e) H x:=Zl rfl rfl
def mM (ob:Obj) (off len tot:Nat):Option PV:=match ob with | .elems _ xs=>if xs.length=tot/\off+len<=tot then (Y4 ((xs.take (off+len)).drop off)).map .str else none | _=>none
@[go_sem] theorem xD {o off len tot} :Iw (some (.int .u8)) H (.sl o off len tot)=mM (oat H o) off len tot:=Zl rfl rfl
@[go_sem] theorem tN {S xs off len tot} :mM (.elems S xs) off len tot=if xs.length=tot/\off+len<=tot then (Y4 ((xs.take (off+len)).drop off)).map .str else none:=Zl rfl rfl
@[go_sem] theorem vS : Y4 []=some []:=Zl rfl rfl
@[go_sem] theorem pZ {n r} :Y4 (.int .u8 n::r)=(Y4 r).map (UInt8.ofNat n.toNat:: ·):=by rfl
@[go_sem] theorem Zmq {a b:Int} (h:0<=a):a.tdiv b=a / b:=Int.tdiv_eq_ediv_of_nonneg h
@[go_sem] theorem ZmD {a b:Int} (h:0<=a):a.tmod b=a%b:=Int.tmod_eq_emod_of_nonneg h
@[go_sem] theorem Zpb {cs} :vc H (.p (.agg cs))=if cs.all (·.one)=true then some (cs.map .p) else none:=by rfl
@[go_sem] theorem ZmE {cs} :vc H (.agg cs)=if cs.all (V.one H)=true then some cs else none:=by rfl
@[go_sem] theorem Zpc {n} :vc H (.p (.int k n))=some [.p (.int k n)]:=Zl rfl rfl
@[go_sem] theorem ZmF {n} :vc H (.p (.bool n))=some [.p (.bool n)]:=Zl rfl rfl
@[go_sem] theorem Zpd {n} :vc H (.p (.str n))=some [.p (.str n)]:=Zl rfl rfl
@[go_sem] theorem ZmG {c xs} :vc H (.p (.list c xs))=some [.p (.list c xs)]:=Zl rfl rfl
@[go_sem] theorem Zqq {o off len tot} :vc H (.sl o off len tot)=if R4 (oat H o) tot=true then some [.sl o off len tot] else none:=Zl rfl rfl
@[go_sem] theorem Zpe {x} :V.one H (.p x)=x.one:=Zl rfl rfl
@[go_sem] theorem ZmJ {o off len tot} :V.one H (.sl o off len tot)=R4 (oat H o) tot:=Zl rfl rfl
@[go_sem] theorem ZmI {o} :V.one H (.mp o)=R2 (oat H o):=Zl rfl rfl
@[go_sem] theorem Zqp {o} :vc H (.mp o)=if R2 (oat H o)=true then some [.mp o] else none:=Zl rfl rfl
@[go_sem] theorem ZeJ {es} :R2 (.map es)=true:=Zl rfl rfl
@[go_sem] theorem LV {α:Type} {n} {cs:List α} :Ja ([]:List α) n cs= []:=by rfl
@[go_sem] theorem ZjK {α:Type} {x c:α} {l cs} :Ja (x::l) 0 (c::cs)=c::Ja l 0 cs:=by simp [Ja]
@[go_sem] theorem Ze2 {α:Type} {x:α} {l} :Ja (x::l) 0 []=x::l:=by simp [Ja]
@[go_sem] theorem ZjJ {α:Type} {x:α} {l cs n} :Ja (x::l) (n+1) cs=x::Ja l n cs:=by simp [Ja]
def lQ (H:List Obj) (o:Nat) (ob:Obj) (off n:Nat) (cs:List V):Option (List Obj):=match ob with
 | .cells old=>if off+n<=old.length then some (F0 H o (.cells (Ja old off cs))) else none
 | _=>none
@[go_sem] theorem yM {n o off cs} :Bj H n (.ptr o off) cs=if cs.length=n then lQ H o (oat H o) off n cs else none:=Zl rfl rfl
@[go_sem] theorem tA {o old off n cs} :lQ H o (.cells old) off n cs=if off+n<=old.length then some (F0 H o (.cells (Ja old off cs))) else none:=Zl rfl rfl
def O8 (H:List Obj) (o:Nat) (ob:Obj) (i j tot n:Nat) (ps:Option (List PV)):Option (List Obj):=match ob,ps with
 | .elems S xs,some ps=>if xs.length=tot/\i<xs.length/\j+n<=(Kx xs i).cells.length/\ps.all (·.one)=true/\(Kx xs i).cells.all (·.one)=true then
   some (F0 H o (.elems S (xs.set i (jY (Kx xs i) (Ja (Kx xs i).cells j ps))))) else none
 | _,_=>none
@[go_sem] theorem Zej {n o i j tot cs} :Bj H n (.ep o i j tot) cs=if cs.length=n then O8 H o (oat H o) i j tot n (Qq cs) else none:=Zl rfl rfl
@[go_sem] theorem zO {α:Type} [Inhabited α] {f:α->PV} {l:List α} {o S i j tot n ps} (ht:l.length=tot) (hi:i<l.length):O8 H o (.elems S (l.map f)) i j tot n (some ps) =
  if j+n<=(f (nth l i)).cells.length/\ps.all (·.one)=true/\(f (nth l i)).cells.all (·.one)=true then
   some (F0 H o (.elems S ((l.map f).set i (jY (f (nth l i)) (Ja (f (nth l i)).cells j ps))))) else none:=by
 simp_all [O8,UR]
@[go_sem] theorem ZlS {a cs} :jY (.agg a) cs= .agg cs:=Zl rfl rfl
@[go_sem] theorem ZlT {n c l} :jY (.int k n) (c::l)=c:=Zl rfl rfl
@[go_sem] theorem Zi9 {n c l} :jY (.bool n) (c::l)=c:=Zl rfl rfl
@[go_sem] theorem ZdG {l} :E3 P H t l=match Xi P t,BN P t with
 | some zs,some pl=>(Kq H pl (zs.map .p) l).map mkA
 | _,_=>none:=Zl rfl rfl
@[go_sem] theorem ZdO {pl cs} :Kq H pl cs []=some cs:=by simp [Kq]
def dR (H:List Obj) (pl:Nat->Option (Nat×Nat)) (cs:List V) (r:List (Nat×V)) (q:Option (Nat×Nat)) (vs:Option (List V)):Option (List V):=match q,vs with
 | some (off,sz),some vs=>if vs.length=sz/\off+sz<=cs.length then Kq H pl (Ja cs off vs) r else none
 | _,_=>none
@[go_sem] theorem xH {pl cs i v r} :Kq H pl cs ((i,v)::r)=dR H pl cs r (pl i) (vc H v):=Zl rfl rfl
@[go_sem] theorem uY {pl cs off sz vs r} :dR H pl cs r (some (off,sz)) (some vs)=if vs.length=sz/\off+sz<=cs.length then Kq H pl (Ja cs off vs) r else none:=Zl rfl rfl
@[go_sem] theorem ZnL {l i} :BM l i=l[i]? :=Zl rfl rfl
@[go_sem] theorem ZnK {n i} :plA n i=some (i*n,n):=Zl rfl rfl
end vals
end Go.AM
namespace Go.AM
open Go.RowKit
section
variable {P : Program} {H : List Obj} {k : IntKind} {t u : TypeId} {fr : List V}
def dW (S:Option Nat) (H:List Obj) (n:Nat) (l:List (Nat×V)):Option (V×List Obj):=match S with
 | some S=>if n=l.length/\n*S<=16777216/\0<S then (Jl H S 0 l).map fun xs=>(.sl H.length 0 n n,H++ [.elems S xs]) else none
 | none=>none
@[go_sem] theorem Zg1 {n l} :W6 P (.buildSlice t n (List.toArray l)) fr H=dW (UU P t) H n (l.map fun x=>(x.1,ev fr x.2)):=by
 grind [W6,UU,dW,OE]
@[go_sem] theorem xK {S n l} :dW (some S) H n l=if n=l.length/\n*S<=16777216/\0<S then (Jl H S 0 l).map fun xs=>(.sl H.length 0 n n,H++ [.elems S xs]) else none:=Zl rfl rfl
@[go_sem] theorem Zi5 {S n} :Jl H S n []=some []:=by simp [Jl]
@[go_sem] theorem ZeO {S n i x r} :Jl H S n ((i,.p x)::r)=if i=n then if x.cells.length=S/\x.cells.all (·.one)=true then (Jl H S (n+1) r).map (x:: ·) else none else none:=by rfl
@[go_sem] theorem ZlJ {S n i f r} :Jl H S n ((i,.fn (.func f) [] [])::r)=if i=n then if 1=S then (Jl H S (n+1) r).map (.fn f:: ·) else none else none:=by simp [Jl,pvo,PV.cells,PV.one]
def QP (P:Program) (t:TypeId):Option (Nat×Nat):=match P.underlying t with
 | some (.slice e)=>match Y2 P e,zval P e,(P.info? e).map (·.bytes) with
  | some S,some z,some by'=>if 0<S/\z.cells.length=S/\z.cells.all (·.one)=true/\by'≠0 then some (S,by') else none
  | _,_,_=>none
 | _=>none
theorem Fb {S by'} (h:QP P t=some (S,by')): ∃e z,P.underlying t=some (.slice e)/\Y2 P e=some S/\zval P e=some z/\(P.info? e).map (·.bytes)=some by'/\0<S/\z.cells.length=S/\z.cells.all (·.one)=true/\by'≠0:=by
 unfold QP at h
 grind
def YK (D:Option TypeDesc) (H:List Obj) (y:V):Option (List PV):=match D,y with
 | some (.slice _),.p (.list _ ys)=>some ys
 | some (.slice _),.sl o off len tot=>match oat H o with
  | .elems _ xs=>if xs.length=tot/\off+len<=tot then some ((xs.take (off+len)).drop off) else none
  | _=>none
 | some .string,.p (.str s)=>some (s.map fun b=> .int .u8 b.toNat)
 | _,_=>none
def mY (ob:Obj) (off len tot:Nat):Option (List PV):=match ob with | .elems _ xs=>if xs.length=tot/\off+len<=tot then some ((xs.take (off+len)).drop off) else none | _=>none
@[go_sem] theorem yA {e c ys} :YK (some (.slice e)) H (.p (.list c ys))=some ys:=Zl rfl rfl
@[go_sem] theorem Zhc {e o off len tot} :YK (some (.slice e)) H (.sl o off len tot)=mY (oat H o) off len tot:=Zl rfl rfl
theorem N5 {S xs n} (h:List.length xs=n):mY (.elems S xs) 0 n n=some xs:=by grind [mY]
def Mm (H:List Obj) (F:Option (Nat×Nat)) (ys:Option (List PV)):Option (V×List Obj):=match F,ys with
 | some (S,by'),some ys=>if KQ S ys=true/\ys.length*by'<=140737488355328/\ys.length<=140737488355328 then some (.sl H.length 0 ys.length ys.length,H++ [.elems S ys]) else none
 | _,_=>none
def Uv (H:List Obj) (F:Option (Nat×Nat)) (ob:Obj) (o n:Nat) (ys:Option (List PV)):Option (V×List Obj):=match F,ob,ys with
 | some (S,by'),.elems S' xs,some ys=>if S'=S/\xs.length=n/\KQ S ys=true/\(n+ys.length)*by'<=140737488355328/\n+ys.length<=140737488355328 then
   some (.sl o 0 (n+ys.length) (n+ys.length),F0 H o (.elems S (xs++ys))) else none
 | _,_,_=>none
theorem It {z x y ys e S by'} (h1:P.underlying t=some (.slice e)) (h2:Y2 P e=some S) (h3:zval P e=some z) (h4:(P.info? e).map (·.bytes)=some by') (h5:GS P H u y=some ys) (h6:0<S/\z.cells.length=S/\z.cells.all (·.one)=true/\by'≠0) :
  W5 P H t u x y=if KQ S ys=true then (match x with
    | .p (.list cl xs)=>if cl=true/\KQ S xs=true/\(xs= []\/0<ys.length)/\(xs.length+ys.length)*by'<=140737488355328/\xs.length+ys.length<=140737488355328 then
      some (.sl H.length 0 (xs.length+ys.length) (xs.length+ys.length),H++ [.elems S (xs++ys)]) else none
    | .sl o off len tot=>match oat H o with
     | .elems S' xs=>if S'=S/\off=0/\len=tot/\xs.length=tot/\(tot+ys.length)*by'<=140737488355328/\tot+ys.length<=140737488355328 then
       some (.sl o 0 (tot+ys.length) (tot+ys.length),F0 H o (.elems S (xs++ys))) else none
     | _=>none
    | _=>none) else none:=by
 simp only [W5,h1,h2,h3,h4,h5]
 grind
theorem BO {y F} (hF:QP P t=some F):W5 P H t u (.p (.list true [])) y=Mm H (some F) (YK (P.underlying u) H y):=by
 obtain ⟨S,by'⟩:=F;obtain ⟨e,z,h1,h2,h3,h4,h6⟩:=Fb hF;have e1:YK (P.underlying u) H y=GS P H u y:=Zl rfl rfl;rw [e1]
 cases h5:GS P H u y with
 | none=>grind [W5,Mm]
 | some ys =>
  grind [It,Mm,KQ]
theorem Ym {y F o n} (hF:QP P t=some F):W5 P H t u (.sl o 0 n n) y=Uv H (some F) (oat H o) o n (YK (P.underlying u) H y):=by
 obtain ⟨S,by'⟩:=F;obtain ⟨e,z,h1,h2,h3,h4,h6⟩:=Fb hF;have e1:YK (P.underlying u) H y=GS P H u y:=Zl rfl rfl;rw [e1]
 cases h5:GS P H u y with
 | none =>
  grind [W5,Uv]
 | some ys =>
  rw [It h1 h2 h3 h4 h5 h6];simp only [Uv]
  grind
@[go_sem] theorem Zd8 {S b ys} :Mm H (some (S,b)) (some ys)=if KQ S ys=true/\ys.length*b<=140737488355328/\ys.length<=140737488355328 then some (.sl H.length 0 ys.length ys.length,H++ [.elems S ys]) else none:=Zl rfl rfl
theorem Hf {S b xs ys o n} (hn:xs.length=n) (hb:(n+ys.length)*b<=140737488355328) (hb2:n+ys.length<=140737488355328):Uv H (some (S,b)) (.elems S xs) o n (some ys)=if KQ S ys=true then some (.sl o 0 (n+ys.length) (n+ys.length),F0 H o (.elems S (xs++ys))) else none:=by
 simp_all [Uv]
@[go_sem] theorem ZjM {α:Type} {S} {f:α->PV} {l:List α} :mY (.elems S (l.map f)) 0 l.length l.length=some (l.map f):=N5 Zb
@[go_sem] theorem ZjN {S x} :mY (.elems S [x]) 0 1 1=some [x]:=N5 Zb
@[go_sem] theorem Zea {α:Type} {S b o x} {f:α->PV} {l:List α} (hb:(l.length+1)*b<=140737488355328) (hb2:l.length+1<=140737488355328):Uv H (some (S,b)) (.elems S (l.map f)) o l.length (some [x])=if KQ S [x]=true then some (.sl o 0 (l.length+1) (l.length+1),F0 H o (.elems S (l.map f++ [x]))) else none :=
 Hf Zb Za Za
@[go_sem] theorem Zeb {α β:Type} {S b o} {f:α->PV} {g:β->PV} {l:List α} {m:List β} (hb:(l.length+m.length)*b<=140737488355328) (hb2:l.length+m.length<=140737488355328):Uv H (some (S,b)) (.elems S (l.map f)) o l.length (some (m.map g))=if KQ S (m.map g)=true then some (.sl o 0 (l.length+m.length) (l.length+m.length),F0 H o (.elems S (l.map f++m.map g))) else none:=by
 grind [Hf]
@[go_sem] theorem ZlV {S} :KQ S []=true:=Zl rfl rfl
@[go_sem] theorem Zjg {S x l} :KQ S (x::l)=((x.cells.length==S)&&x.cells.all (·.one)&&KQ S l):=by rfl
theorem QD {α:Type} {S} {f:α->PV} {l:List α} (h: ∀x,ZcL S (f x)=true):KQ S (l.map f)=true:=by grind [KQ]
def Sc (P:Program) (t:TypeId):Option (Nat×Nat×PV):=match P.underlying t with
  | some (.slice e)=>match Y2 P e,zval P e,(P.info? e).map (·.bytes) with
   | some S,some z,some by'=>if z.cells.all (·.one)=true/\z.cells.length=S/\0<S then some (S,by',z) else none
   | _,_,_=>none
  | _=>none
end
def WJ : Nat->List Nat->List V->List V
 | _,_,[]=> []
 | i,[],_::l=> .junk::WJ (i+1) [] l
 | i,k::ks,x::l=>if i=k then x::WJ (i+1) ks l else .junk::WJ (i+1) (k::ks) l
def Kp : List (Nat×V)->List V->List V
 | [],fr=>fr
 | (i,v)::r,fr=>Kp r (pt fr i v)
@[go_sem] theorem ZeK {i ks} :WJ i ks []= []:=by rfl
@[go_sem] theorem ZcC {i x l} :WJ i [] (x::l)= .junk::WJ (i+1) [] l:=by simp [WJ]
@[go_sem] theorem ZcB {i k ks x l} :WJ i (k::ks) (x::l)=if i=k then x::WJ (i+1) ks l else .junk::WJ (i+1) (k::ks) l:=by simp [WJ]
@[go_sem] theorem Zpp : ((0:Nat):Int)=0:=Zl rfl rfl
@[go_sem] theorem Zpq {n:Nat} :((n+1:Nat):Int)=(n:Int)+1:=Zl rfl rfl
@[go_sem] theorem Zoj {n:Nat} :((n:Int)).toNat=n:=Zl rfl rfl
@[go_sem] theorem ZjF {fr} :Kp [] fr=fr:=by simp [Kp]
@[go_sem] theorem Ze0 {i v r fr} :Kp ((i,v)::r) fr=Kp r (pt fr i v):=by simp [Kp]
@[go_sem] theorem Zk2 {p q:Prop} [Decidable p] [Decidable q]:(decide p&&decide q)=decide (p/\q):=Zb
@[go_sem] theorem ZcP {p q:Prop} [Decidable p] [Decidable q]:(decide p||decide q)=decide (p\/q):=Zb
theorem Zm {P c fr H Q} {I:Type} (ks:List Nat) (sets:I->List (Nat×V)) (hs:I->List Obj) (R:I->Prop) (μ:I->Nat) (i0:I) (hR:R i0) (h0:Weak H.length fr H (Kp (sets i0) (WJ 0 ks fr)) (hs i0))
  (round: ∀i,R i->JD [] P c (Kp (sets i) (WJ 0 ks fr)) (hs i) (QI (fun fr' H'=> ∃i',R i'/\μ i'<μ i/\Weak H.length fr' H' (Kp (sets i') (WJ 0 ks fr)) (hs i')) Q)):AWP P (.loop c) fr H Q :=
 Mt R (fun i=>Kp (sets i) (WJ 0 ks fr)) hs μ i0 hR h0 fun i hi=>Zg [] _ _ _ _ (round i hi)
theorem Z4 {P c fr H Q} (cuts:List Nat) {I:Type} (ks:List Nat) (sets:I->List (Nat×V)) (hs:I->List Obj) (R:I->Prop) (μ:I->Nat) (i0:I) (hR:R i0) (h0:Weak H.length fr H (Kp (sets i0) (WJ 0 ks fr)) (hs i0))
  (round: ∀i,R i->JD cuts P c (Kp (sets i) (WJ 0 ks fr)) (hs i) (QI (fun fr' H'=> ∃i',R i'/\μ i'<μ i/\Weak H.length fr' H' (Kp (sets i') (WJ 0 ks fr)) (hs i')) Q)):AWP P (.loop c) fr H Q :=
 Mt R (fun i=>Kp (sets i) (WJ 0 ks fr)) hs μ i0 hR h0 fun i hi=>Zg cuts _ _ _ _ (round i hi)
theorem ZI {P x y fr H Q} {I:Type} (ks:List Nat) (sets:I->List (Nat×V)) (hs:I->List Obj) (R:I->Prop)
  (h:JD [] P x fr H (QI (fun fr' H'=> ∃i,R i/\Weak H.length fr' H' (Kp (sets i) (WJ 0 ks fr)) (hs i)) Q)) (k: ∀i,R i->AWP P y (Kp (sets i) (WJ 0 ks fr)) (hs i) Q):AWP P (.seq x y) fr H Q :=
 fun F ι a w hr hf=>by
 refine wp_seq (wp_mono (Zg [] _ _ _ _ h F ι a w hr hf) ?_);rintro e a' w' ⟨fr',H',ι',q,g,f⟩
 cases e with
 | normal =>
  obtain ⟨i,hi,hw⟩:=q;obtain ⟨ι2,r2,f2,g2⟩:=hw F ι' a' w' g.rel f;refine wp_mono (k i hi F ι2 a' w' r2 f2) ?_;rintro e2 a2 w2 ⟨fr2,H2,ι3,q2,g3,f3⟩;exact ⟨fr2,H2,ι3,q2,(g2 H ι w (ZA _) g).trans g3,f3⟩
 | exit id=>exact ⟨fr',H',ι',q,g,f⟩
 | goto l=>exact ⟨fr',H',ι',q,g,f⟩
 | ret=>exact ⟨fr',H',ι',q,g,f⟩
 | panic ch=>exact ⟨fr',H',ι',q,g,f⟩
 | outgrown=>exact ⟨fr',H',ι',q,g,f⟩
theorem ZkH {H n x} :DV H n x x=(refB n x=true\/x= .junk\/ ∃y,cX H n x=some y/\x= .p y):=by
 simp only [DV,true_and,eq_iff_iff]
 grind
@[go_sem] theorem ZkF {H n x} :DV H n x .junk=True:=by simp [DV]
@[go_sem] theorem Zph {H n} {x y:PV} :DV H n (.p x) (.p y)=(y=x):=by simp [DV,refB,cX]
@[go_sem] theorem ZmO {H n o off len tot o' off' len' tot'} :DV H n (.sl o off len tot) (.sl o' off' len' tot')=((o'=o/\off'=off/\len'=len/\tot'=tot)/\o<n):=by simp [DV,refB]
@[go_sem] theorem ZkG {H n o off o' off'} :DV H n (.ptr o off) (.ptr o' off')=((o'=o/\off'=off)/\o<n):=by simp [DV,refB]
theorem uU {H n o off len tot y} :DV H n (.sl o off len tot) (.p y)=(cX H n (.sl o off len tot)=some y):=by simp [DV]
@[go_sem] theorem ZmK {H n} :Ox H n [] []=True:=by simp [Ox]
@[go_sem] theorem ZkC {H n x l x' l'} :Ox H n (x::l) (x'::l')=(DV H n x x'/\Ox H n l l'):=by simp [Ox]
@[go_sem] theorem ZmL {H n l} :On H n l []=True:=by simp [On]
@[go_sem] theorem ZkD {H n x l x' l'} :On H n (x::l) (x'::l')=(EZ H n x x'/\On H n l l'):=by simp [On]
@[go_sem] theorem Zf5 {H n cs cs'} :EZ H n (.cells cs) (.cells cs')=Ox H n cs cs':=by simp [EZ]
@[go_sem] theorem Zf6 {H n S S' xs xs'} :EZ H n (.elems S xs) (.elems S' xs')=(S=S'/\xs=xs'):=by simp [EZ]
@[go_sem] theorem ZmM {H n es es2} :EZ H n (.map es) (.map es2)=(es=es2):=by simp [EZ]
@[go_sem] theorem Zpg {H n o o2} :DV H n (.mp o) (.mp o2)=(o2=o/\o<n):=by simp [DV,refB,cX]
@[go_sem] theorem ZkE {H n} :EZ H n .dead .dead=True:=by simp [EZ]
theorem Weak.mk {n0 fr H fr' H'} (h:n0<=H'.length/\H'.length<=H.length/\Ox H H'.length fr fr'/\On H H'.length H H'):Weak n0 fr H fr' H':=Weak.of h.1 h.2.2.1 h.2.2.2 h.2.1
theorem wk {n0 fr H fr' H'} (h:n0<=H'.length/\H'.length<=H.length/\Ox H H'.length fr fr'/\On H H'.length H H':=by simp (disch:=omega) only [go_sem,seval]):Weak n0 fr H fr' H':=Weak.mk h
theorem we {n0 x H' a b} (h:n0<=List.length b/\List.length b<=H'.length/\Ox H' (List.length b) [x] [a]/\On H' (List.length b) H' b:=by simp (disch:=omega) only [go_sem,seval]): ∃y H'',Weak n0 [x] H' [y] H''/\y=a/\H''=b:=⟨_,_,Weak.mk h,rfl,rfl⟩
attribute [go_sem] List.length_cons List.length_nil List.cons_append List.nil_append List.append_nil List.map_cons List.map_nil List.drop_zero List.drop_succ_cons List.drop_nil List.take_succ_cons List.take_zero List.take_nil List.all_cons List.all_nil
 Xm Ub and_self true_and and_true Ay Ax Ez Co JS VK Bool.and_self Z1 if_true Yi VH JT IntWalk.i64_in IntWalk.i32_in IntWalk.u8_in IntWalk.u64_in IntWalk.u32_in
 beq_self_eq_true KG List.replicate_zero Bool.or_true Bool.true_or Bool.or_false Bool.false_or YD Vj
end Go.AM
namespace Go.AM
open Go.RowKit
theorem RP.weaker {X X':Nat->Prop} {w x v} (h:RP X w x v) (hx: ∀b,X' b->X b):RP X' w x v:=h.ext (w':=w) fun _ hb hs=>⟨fun h=>hb (hx _ h),hs,rfl⟩
theorem Good.forget {F w H' ι' w'} (he:Env F [] w) (hf: ∀b,F b->b<w.heap.size) (g:Good F [] [] w H' ι' w'):Good F [] [] w [] [] w' :=
 .up he ⟨⟨rfl,fun b hb=>by have:=hf b hb;have:=g.size;omega,fun i j b hi=>by simp at hi,fun i b hi=>by simp at hi,fun o cs ho=>by simp at ho,fun o S xs ho=>by simp at ho,fun o es ho=>by simp at ho,fun o T E r bs ho=>by simp at ho⟩,
  g.os,g.tape,g.output,fun b c t h=>(g.shape b c t h).imp (fun h=>absurd h.1 Zb) id,g.size,g.keep,fun _ _ h=>h,fun o ob ho=>by simp at ho⟩
theorem ACalls.pure {P g args} {y:PV} (h:ACalls P g args [] fun x _=>x= .p y):ACalls P g args [] fun x H'=>x= .p y/\H'= []:=by
 refine ⟨h.1,fun F ι w vs hr hv=> ?_⟩;have hι:ι= []:=YC hr.len;subst hι;refine (h.2 F [] w vs hr hv).mono ?_;rintro e w' ⟨x,H',ι',v,rfl,rfl,gd,rv⟩
 cases rv with | p _ _ rp =>
 exact ⟨_,[],[],v,rfl,⟨rfl,rfl⟩,gd.forget hr.env hr.fin,.p _ _ (rp.weaker fun b hb=> .inl (by rcases hb with hb | hb;exact hb;simp at hb))⟩
theorem FD {F:Nat->Prop} {w w':World} {H':List Obj} {ι':List (Option Nat)} {v:Value} {o S n:Nat} {xs:List PV} (hF: ∀b,F b->b<w.heap.size) (hn:xs.length=n) (ho:oat H' o= .elems S xs)
  (gd:Good F [] [] w H' ι' w') (rv:RV F H' ι' w' (.sl o 0 n n) v): ∃ι2,Good F [] [] w [.elems S xs] ι2 w'/\RV F [.elems S xs] ι2 w' (.sl 0 0 n n) v:=by
 have hH:=Xx ho Zb;have hlt:=(ZQ.1 hH).1
 have hlt':o<ι'.length:=by rw [gd.rel.len];exact hlt
 have hι':ι'[o]? =some (ι'[o]):=by simp [hlt']
 have hget: ∀ {i:Nat} {q:Option Nat},[ι'[o]][i]? =some q->i=0/\ι'[o]? =some q:=fun {i q} h=>by
  grind
 have hown: ∀b,Own F [ι'[o]] b->Own F ι' b:=fun b hb=>by
  rcases hb with hb | hb
  ·exact .inl hb
  ·simp at hb;right;rw [hb];simp
 refine ⟨[ι'[o]],⟨⟨⟨rfl,fun b hb=> ?_,fun i j b hi hj=> ?_,fun i b hi=> ?_,fun o' cs ho'=> ?_,fun o' S' xs' ho'=> ?_,fun o' es ho'=>by grind,fun o' T E r bs ho'=>by grind⟩,gd.rel.env.le hown⟩,gd.os,gd.tape,gd.output,fun b c t h=>(gd.shape b c t h).imp (fun h=>absurd h.1 Zb) id,gd.size,gd.keep,fun b hb _ h=> ?_,fun o ob ho=>by simp at ho⟩,?_⟩
 ·have:=hF b hb;have:=gd.size;omega
 ·grind
 ·exact gd.rel.avo o b (hget hi).2
 ·grind
 ·cases o' with
  | zero =>
   simp at ho';obtain ⟨rfl,rfl⟩:=ho';rcases gd.rel.elm o _ _ hH with ⟨e1,e2⟩ | ⟨b,c,t,cap,e1,e2,e3,e4,e5,e6,e7⟩
   ·grind
   ·exact .inr ⟨b,c,t,cap,by grind,e2,e3,e4,e5,e6,fun i x j y hi hj=>(e7 i x j y hi hj).weaker hown⟩
  | succ i=>simp at ho'
 ·simp at h;exact gd.own b hb Zb (by rw [h];simp)
 ·cases rv with
  | slNil _ S2 a h1 h2 =>
   rw [hH] at h2;simp at h2;obtain ⟨rfl,rfl⟩:=h2;exact .slNil 0 S a (by grind) rfl
  | sl _ _ _ _ b S2 cap t xs2 c h1 h2 ht hw hcap hl hlen hm =>
   rw [hH] at h2;simp at h2;obtain ⟨rfl,rfl⟩:=h2;exact .sl 0 0 n n b S cap t xs c (by grind) rfl hn hw hcap hl hlen hm
  | slD _ _ _ _ _ h1=>grind
  | slS _ _ _ _ _ S2 xs2 h1 hne=>grind
  | slC _ _ _ _ _ _ hd=>grind
theorem ACalls.fresh {P g args} {S n:Nat} {xs:List PV} (hn:xs.length=n) (h:ACalls P g args [] fun x H'=> ∃o,x= .sl o 0 n n/\oat H' o= .elems S xs):ACalls P g args [] fun x H'=>x= .sl 0 0 n n/\H'= [.elems S xs]:=by
 refine ⟨h.1,fun F ι w vs hr hv=> ?_⟩;have hι:ι= []:=YC hr.len;subst hι;refine (h.2 F [] w vs hr hv).mono ?_;rintro e w' ⟨x,H',ι',v,rfl,⟨o,rfl,ho⟩,gd,rv⟩;obtain ⟨ι2,g2,r2⟩:=FD hr.fin hn ho gd rv
 grind
theorem ACalls.freshE {P g args} {α:Type} {S:Nat} {f:α->PV} {R:List α->Prop} (h:ACalls P g args [] fun x H'=> ∃l:List α,R l/\ ∃o,x= .sl o 0 l.length l.length/\oat H' o= .elems S (l.map f)) :
  ACalls P g args [] fun x H'=> ∃l:List α,R l/\x= .sl 0 0 l.length l.length/\H'= [.elems S (l.map f)]:=by
 refine ⟨h.1,fun F ι w vs hr hv=> ?_⟩;have hι:ι= []:=YC hr.len;subst hι;refine (h.2 F [] w vs hr hv).mono ?_;rintro e w' ⟨x,H',ι',v,rfl,⟨l,hl,o,rfl,ho⟩,gd,rv⟩;obtain ⟨ι2,g2,r2⟩:=FD hr.fin Zb ho gd rv
 grind
theorem ACalls.frozen {P g args} {S n:Nat} {xs:List PV} (hn:xs.length=n) (h:ACalls P g args [] fun x H'=>x= .sl 0 0 n n/\H'= [.elems S xs]):ACalls P g args [] fun x H'=>x= .p (.list false xs)/\H'= []:=by
 refine ⟨h.1,fun F ι w vs hr hv=> ?_⟩;have hι:ι= []:=YC hr.len;subst hι;refine (h.2 F [] w vs hr hv).mono ?_;rintro e w' ⟨x,H',ι',v,rfl,⟨rfl,rfl⟩,gd,rv⟩;have hk:Keeps (Own F ι') w' (Own F []) w':=fun b hb hs=>⟨fun h=>hb (.inl (by rcases h with h | h;exact h;simp at h)),hs,rfl⟩
 have:=BD (S:=S) (xs:=xs) (off:=0) (len:=n) (tot:=n) (Own F []) (fun b hb h=>by
  rcases h with h | h
  ·exact (gd.rel.avo 0 b hb).1 h
  ·simp at h) hk gd.rel rfl hn Za rv
 rw [Xm,EG,Cq Za] at this;exact ⟨_,[],[],v,rfl,⟨rfl,rfl⟩,gd.forget hr.env hr.fin,.p _ _ this⟩
theorem ACalls.frozenE {P g args} {α:Type} {S:Nat} {f:α->PV} {R:List α->Prop} (h:ACalls P g args [] fun x H'=> ∃l:List α,R l/\x= .sl 0 0 l.length l.length/\H'= [.elems S (l.map f)]) :
  ACalls P g args [] fun x H'=> ∃l:List α,R l/\x= .p (.list false (l.map f))/\H'= []:=by
 refine ⟨h.1,fun F ι w vs hr hv=> ?_⟩;have hι:ι= []:=YC hr.len;subst hι;refine (h.2 F [] w vs hr hv).mono ?_;rintro e w' ⟨x,H',ι',v,rfl,⟨l,hl,rfl,rfl⟩,gd,rv⟩;have hk:Keeps (Own F ι') w' (Own F []) w':=fun b hb hs=>⟨fun h=>hb (.inl (by rcases h with h | h;exact h;simp at h)),hs,rfl⟩
 have:=BD (S:=S) (xs:=l.map f) (off:=0) (len:=l.length) (tot:=l.length) (Own F []) (fun b hb h=>by
  rcases h with h | h
  ·exact (gd.rel.avo 0 b hb).1 h
  ·simp at h) hk gd.rel rfl Zb Za rv
 rw [Xm,EG,Cq Zb] at this;exact ⟨_,[],[],v,rfl,⟨l,hl,rfl,rfl⟩,gd.forget hr.env hr.fin,.p _ _ this⟩
theorem ACalls.useV {P g args} {α:Type} {f:α->PV} {R:α->Prop} {H:List Obj} {K:V->List Obj->Prop} (h:ACalls P g args [] fun x H'=> ∃a:α,R a/\x= .p (f a)/\H'= []) (k: ∀a,R a->K (.p (f a)) H) (ha:Xn 0 args=true:=by rfl):ACalls P g args H K:=by
 refine (h.behind ha H).mono ?_;rintro x H' ⟨y',H1,⟨a,ra,rfl,rfl⟩,rfl,rfl⟩
 grind [shV]
theorem ACalls.useE {P g args} {α:Type} {S:Nat} {f:α->PV} {R:List α->Prop} {H:List Obj} {K:V->List Obj->Prop} (h:ACalls P g args [] fun x H'=> ∃l:List α,R l/\x= .sl 0 0 l.length l.length/\H'= [.elems S (l.map f)])
  (k: ∀l,R l->K (.sl H.length 0 l.length l.length) (H++ [.elems S (l.map f)])) (ha:Xn 0 args=true:=by rfl):ACalls P g args H K:=by
 refine (h.behind ha H).mono ?_;rintro x H' ⟨y',H1,⟨l,rl,rfl,rfl⟩,rfl,rfl⟩
 grind [shV,shO]
theorem ACalls.use {P g args} {y:PV} {H:List Obj} {K:V->List Obj->Prop} (h:ACalls P g args [] fun x H'=>x= .p y/\H'= []) (k:K (.p y) H) (ha:Xn 0 args=true:=by rfl):ACalls P g args H K:=by
 refine (h.behind ha H).mono ?_;rintro x H' ⟨y',H1,⟨rfl,rfl⟩,rfl,rfl⟩
 grind [shV]
theorem ACalls.useF {P g args} {S n:Nat} {xs:List PV} {H:List Obj} {K:V->List Obj->Prop} (h:ACalls P g args [] fun x H'=>x= .sl 0 0 n n/\H'= [.elems S xs]) (k:K (.sl H.length 0 n n) (H++ [.elems S xs])) (ha:Xn 0 args=true:=by rfl):ACalls P g args H K:=by
 refine (h.behind ha H).mono ?_;rintro x H' ⟨y',H1,⟨rfl,rfl⟩,rfl,rfl⟩
 grind [shV,shO]
theorem Zd {P:Program} {g:FuncId} {fn:Func} {c:Code} {args:List V} {y:PV} (hf:P.funcs[g]? =some fn) (hb:fn.body=some c) (hg:Zi P g)
  (h:JD [] P c (args++List.replicate (fn.ntmps-args.length) .junk) [] (BB P fn.results.toList fun x _=>x= .p y)):ACalls P g args [] fun x H'=>x= .p y/\H'= [] :=
 (YQ hf hb hg (Zg [] _ _ _ _ h)).pure
theorem Vw (cuts:List Nat) {P:Program} {g:FuncId} {fn:Func} {c:Code} {args:List V} {y:PV} (hf:P.funcs[g]? =some fn) (hb:fn.body=some c) (hg:Zi P g)
  (h:JD cuts P c (args++List.replicate (fn.ntmps-args.length) .junk) [] (BB P fn.results.toList fun x _=>x= .p y)):ACalls P g args [] fun x H'=>x= .p y/\H'= [] :=
 (YQ hf hb hg (Zg cuts _ _ _ _ h)).pure
theorem UN {P:Program} {g:FuncId} {fn:Func} {c:Code} {args:List V} {S n:Nat} {xs:List PV} (hn:xs.length=n) (hf:P.funcs[g]? =some fn) (hb:fn.body=some c) (hg:Zi P g)
  (h:JD [] P c (args++List.replicate (fn.ntmps-args.length) .junk) [] (BB P fn.results.toList fun x H'=> ∃o,x= .sl o 0 n n/\oat H' o= .elems S xs)):ACalls P g args [] fun x H'=>x= .sl 0 0 n n/\H'= [.elems S xs] :=
 (YQ hf hb hg (Zg [] _ _ _ _ h)).fresh hn
theorem GQ (cuts:List Nat) {P:Program} {g:FuncId} {fn:Func} {c:Code} {args:List V} {S n:Nat} {xs:List PV} (hn:xs.length=n) (hf:P.funcs[g]? =some fn) (hb:fn.body=some c) (hg:Zi P g)
  (h:JD cuts P c (args++List.replicate (fn.ntmps-args.length) .junk) [] (BB P fn.results.toList fun x H'=> ∃o,x= .sl o 0 n n/\oat H' o= .elems S xs)):ACalls P g args [] fun x H'=>x= .sl 0 0 n n/\H'= [.elems S xs] :=
 (YQ hf hb hg (Zg cuts _ _ _ _ h)).fresh hn
theorem ZW (cuts:List Nat) {P:Program} {g:FuncId} {fn:Func} {c:Code} {args:List V} {α:Type} {S:Nat} {f:α->PV} {R:List α->Prop} (hf:P.funcs[g]? =some fn) (hb:fn.body=some c) (hg:Zi P g)
  (h:JD cuts P c (args++List.replicate (fn.ntmps-args.length) .junk) [] (BB P fn.results.toList fun x H'=> ∃l:List α,R l/\ ∃o,x= .sl o 0 l.length l.length/\oat H' o= .elems S (l.map f))):ACalls P g args [] fun x H'=> ∃l:List α,R l/\x= .sl 0 0 l.length l.length/\H'= [.elems S (l.map f)] :=
 (YQ hf hb hg (Zg cuts _ _ _ _ h)).freshE
theorem Weak.ofNil {n0 fr H fr' H'} (t S:Nat) (h:gt fr t= .p (.list true [])) (hn:n0<=H.length) (k:Weak n0 (pt fr t (.sl H.length 0 0 0)) (H++ [.elems S []]) fr' H'):Weak n0 fr H fr' H' :=
 (Weak.nil t S h hn).trans k
end Go.AM
namespace Go.AM
open Go.RowKit
section
variable {P : Program} {H : List Obj} {t : TypeId} {fr : List V}
def Fe (e:Option (Option Nat×Nat)) (c:Bool) (xs:List PV) (lo hi:V):Option V:=match e,lo,hi with
 | some (none,S),.p (.int _ a),.p (.int _ b)=>if BT S xs=true/\0<=a/\a<=b/\b<=xs.length then some (.p (.list (c&&decide (b=xs.length)) ((xs.take b.toNat).drop a.toNat))) else none
 | _,_,_=>none
def V.isInt : V->Option Int
 | .p (.int _ n)=>some n
 | _=>none
theorem V.isInt_some {x:V} {n} (h:x.isInt=some n): ∃k,x= .p (.int k n):=by
 unfold V.isInt at h;grind
theorem Jb {d:Int} {x:Operand} :Ov d fr (some x)=(ev fr x).isInt:=rfl
theorem Dg {c xs k k' a b} :(JC P t c xs a b none).map .p=Fe (Wi P t) c xs (.p (.int k a)) (.p (.int k' b)):=by
 simp only [JC,Fe]
 grind
theorem Rq {e c xs lo hi} (h:lo.isInt=none):Fe e c xs lo hi=none:=by
 unfold Fe;grind [V.isInt]
theorem Rp {e c xs lo hi} (h:hi.isInt=none):Fe e c xs lo hi=none:=by
 unfold Fe;grind [V.isInt]
@[go_sem] theorem Zed {c xs hi} :Vc P H t fr (.p (.list c xs)) none (some hi) none=Fe (Wi P t) c xs (.p (.int .i64 0)) (ev fr hi):=by
 simp only [Vc,Jb]
 cases h:(ev fr hi).isInt with
 | none=>simp [Ov,Rp h]
 | some n=>obtain ⟨k,e⟩:=V.isInt_some h;rw [e,<- Dg];rfl
@[go_sem] theorem Zee {c xs lo} :Vc P H t fr (.p (.list c xs)) (some lo) none none=Fe (Wi P t) c xs (ev fr lo) (.p (.int .i64 (List.length xs))):=by
 simp only [Vc,Jb]
 cases h:(ev fr lo).isInt with
 | none=>simp [Rq h]
 | some n=>obtain ⟨k,e⟩:=V.isInt_some h;rw [e,<- Dg];rfl
@[go_sem] theorem vD {c xs lo hi} :Vc P H t fr (.p (.list c xs)) (some lo) (some hi) none=Fe (Wi P t) c xs (ev fr lo) (ev fr hi):=by
 simp only [Vc,Jb]
 cases h:(ev fr lo).isInt with
 | none=>simp [Rq h]
 | some n =>
  cases h2:(ev fr hi).isInt with
  | none=>simp [Rp h2]
  | some m=>grind [V.isInt_some,Dg]
@[go_sem] theorem Zhb {α:Type} {f:α->PV} {l:List α} {S c k k' a b} (h0:0<=a) (h1:a<=b) (h2:b<=(l.length:Int)) :
  Fe (some (none,S)) c (l.map f) (.p (.int k a)) (.p (.int k' b))=if BT S (l.map f)=true then some (.p (.list (c&&decide (b=l.length)) (((l.take b.toNat).drop a.toNat).map f))) else none:=by
 simp_all [Fe]
end
def Mi (P:Program) (d:Option TypeDesc) (x i:V):Option V :=
 match d,x,i with
 | some .string,.p (.str s),.p (.int _ n)=>if 0<=n then (s[n.toNat]?).map fun b=> .p (.int .u8 b.toNat) else none
 | some (.array k e),.p (.agg cs),.p (.int _ n)=>if 0<=n/\n<k then (match Y2 P e with | some m=>(apart P e cs (n.toNat*m)).map .p | none=>none) else none
 | _,_,_=>none
@[go_sem] theorem ZkW {P:Program} {t:TypeId} {x i:V} :Mj P t x i=Mi P (P.underlying t) x i:=Zl rfl rfl
@[go_sem] theorem ZdT {P:Program} {s:List UInt8} {k n} (h0:0<=n) (h1:n<(s.length:Int)):Mi P (some .string) (.p (.str s)) (.p (.int k n))=some (.p (.int .u8 ((nth s n.toNat).toNat:Nat))):=by
 grind [Mi,Zh]
def IG (d:Option TypeDesc) (s:List UInt8) (lo hi:V):Option V:=match d,lo,hi with
 | some .string,.p (.int _ a),.p (.int _ b)=>if 0<=a/\a<=b/\b<=s.length then some (.p (.str ((s.take b.toNat).drop a.toNat))) else none
 | _,_,_=>none
theorem pG {d s lo hi} (h:lo.isInt=none):IG d s lo hi=none:=by
 unfold IG;grind [V.isInt]
theorem pE {d s lo hi} (h:hi.isInt=none):IG d s lo hi=none:=by
 unfold IG;grind [V.isInt]
section
variable {P : Program} {H : List Obj} {t : TypeId} {fr : List V}
theorem Th {s:List UInt8} {k k' a b} :(match P.underlying t with | some .string=>(if 0<=a/\a<=b/\b<=(s.length:Int) then some (V.p (.str ((s.take b.toNat).drop a.toNat))) else none) | _=>none)=IG (P.underlying t) s (.p (.int k a)) (.p (.int k' b)):=by
 simp only [IG]
 grind
@[go_sem] theorem pH {s lo hi} :Vc P H t fr (.p (.str s)) (some lo) (some hi) none=IG (P.underlying t) s (ev fr lo) (ev fr hi):=by
 simp only [Vc,Jb]
 cases h:(ev fr lo).isInt with
 | none=>rw [pG h];simp
 | some n =>
  cases h2:(ev fr hi).isInt with
  | none=>rw [pE h2];simp
  | some m =>
   grind [V.isInt_some,Th]
def Mp (e:Option (Option Nat×Nat)) (xs:List PV) (hi mx:V):Option V:=match e,hi,mx with
 | some (none,S),.p (.int _ b),.p (.int _ m)=>if BT S xs=true/\0<=b/\b<=xs.length/\m=b then some (.p (.list true (xs.take b.toNat))) else none
 | _,_,_=>none
theorem pC {e xs hi mx} (h:hi.isInt=none):Mp e xs hi mx=none:=by
 unfold Mp;grind [V.isInt]
theorem pD {e xs hi mx} (h:mx.isInt=none):Mp e xs hi mx=none:=by
 unfold Mp;grind [V.isInt]
@[go_sem] theorem vC {c xs hi mx} :Vc P H t fr (.p (.list c xs)) none (some hi) (some mx)=Mp (Wi P t) xs (ev fr hi) (ev fr mx):=by
 simp only [Vc,Jb]
 cases h:(ev fr hi).isInt with
 | none=>grind [pC]
 | some n =>
  cases h2:(ev fr mx).isInt with
  | none=>grind [pD]
  | some m =>
   obtain ⟨k,e⟩:=V.isInt_some h;obtain ⟨k2,e2⟩:=V.isInt_some h2;rw [e,e2];simp only [Ov,JC,Mp]
   grind
@[go_sem] theorem Zha {α:Type} {f:α->PV} {l:List α} {S k k' b m} (h0:m=b) (h1:b=(l.length:Int)):Mp (some (none,S)) (l.map f) (.p (.int k b)) (.p (.int k' m))=if BT S (l.map f)=true then some (.p (.list true (l.map f))) else none:=by
 subst h0;subst h1;simp only [Mp,Z1]
 by_cases h:BT S (l.map f)=true
 ·simp_all [Cq]
 grind
end
@[go_sem low] theorem dZ {H:List Obj} {S b xs ys o n} :Uv H (some (S,b)) (.elems S xs) o n (some ys)=if xs.length=n/\KQ S ys=true/\(n+ys.length)*b<=140737488355328/\n+ys.length<=140737488355328 then some (.sl o 0 (n+ys.length) (n+ys.length),F0 H o (.elems S (xs++ys))) else none:=by simp [Uv]
@[go_sem] theorem ZmN {H:List Obj} {n f a b f' a' b'} :DV H n (.fn f a b) (.fn f' a' b')=((f'=f/\a'=a/\b'=b)/\refB n (.fn f a b)=true):=by simp [DV,cX]
@[go_sem] theorem Zl1 {n f a b} :refB n (.fn f a b)=(Xn n a&&Xn n b):=by simp [refB]
@[go_sem] theorem ZnM {n x} :refB n (.p x)=true:=by simp [refB]
@[go_sem] theorem Zjz {n o off} :refB n (.ptr o off)=decide (o<n):=by simp [refB]
@[go_sem] theorem Zl2 {n o off l t} :refB n (.sl o off l t)=decide (o<n):=by simp [refB]
@[go_sem] theorem ZeX {n} :Xn n []=true:=by simp [Xn]
@[go_sem] theorem Zc0 {n x l} :Xn n (x::l)=(refB n x&&Xn n l):=by simp [Xn]
theorem ACalls.useH {P g args H} {v:V} {H2:List Obj} {K:V->List Obj->Prop} (h:ACalls P g args H fun x H'=>x=v/\H'=H2) (k:K v H2):ACalls P g args H K :=
 h.mono (by grind)
theorem BU {α:Type} {f:α->PV} {S:Nat} (h: ∀x,(f x).cells.length=S) (l:List α):BT S (l.map f)=true:=by
 cases l with
 | nil=>rfl
 | cons x l=>simp [BT,h]
@[go_sem] theorem Zk0 {k k'} {a b:Int} (h:b<=a):IA false [.p (.int k a),.p (.int k' b)]=some (.int k a):=by simp [IA];omega
def QN (F:Option (Nat×Nat×PV)) (H:List Obj) (x y:V):Option (V×List Obj):=match F,x,y with
 | some (S,by',z),.p (.int .i64 n),.p (.int .i64 m)=>if n=m/\0<=n/\(by':Int)*n<=281474976710656/\n<=281474976710656 then some (.sl H.length 0 n.toNat n.toNat,H++ [.elems S (List.replicate n.toNat z)]) else none
 | _,_,_=>none
theorem E9 {P:Program} {t:TypeId} {fr:List V} {H:List Obj} {x y:Operand} {F} (h:Sc P t=some F):W6 P (.makeSlice t x y) fr H=QN (some F) H (ev fr x) (ev fr y):=by
 unfold Sc at h
 split at h
 ·rename_i e hu
  split at h
  ·rename_i S' z' b h1 h2 h3
   split at h
   ·rename_i hc;simp at h;subst h
    have h3':(P.info? e).map (fun x=>(x.bytes:Int))=some (b:Int):=by
     cases hi:P.info? e with
     | none=>grind
     | some i=>grind
    simp only [W6,hu,h2,hc.1,if_true,Rm,h1,h3'];generalize ev fr x=X;generalize ev fr y=Y
    by_cases hX: ∃n,X= .p (.int .i64 n)
    ·obtain ⟨n,rfl⟩:=hX
     by_cases hY: ∃m,Y= .p (.int .i64 m)
     ·obtain ⟨m,rfl⟩:=hY;simp [QN,hc.2]
     ·have e1:QN (some (S',b,z')) H (.p (.int .i64 n)) Y=none:=by
       unfold QN;grind
      grind
    ·have e1:QN (some (S',b,z')) H X Y=none:=by
      unfold QN;grind
     grind
   ·cases h
  ·cases h
 ·cases h
@[go_sem] theorem Zd2 {H:List Obj} {S b:Nat} {z n} (h0:0<=n) (h1:(b:Int)*n<=281474976710656) (h2:n<=281474976710656):QN (some (S,b,z)) H (.p (.int .i64 n)) (.p (.int .i64 n))=some (.sl H.length 0 n.toNat n.toNat,H++ [.elems S (List.replicate n.toNat z)]):=by
 simp_all [QN]
theorem ZcQ (x y:Nat) (hx:x<9223372036854775808) (hy:y<9223372036854775808):IntKind.i64.wrap ((BitVec.ofInt 64 (x:Int)|||BitVec.ofInt 64 (y:Int)).toNat:Int)=((x|||y:Nat):Int):=by
 have e:(BitVec.ofInt 64 (x:Int)|||BitVec.ofInt 64 (y:Int)).toNat=x|||y:=by
  grind
 have h:x|||y<2^63:=Q0 Za Za
 grind [IntWalk.i64_in]
theorem oN (x y:Nat) (hx:x<9223372036854775808) (hy:y<9223372036854775808):IntKind.i64.wrap ((BitVec.ofInt 64 (x:Int)&&&BitVec.ofInt 64 (y:Int)).toNat:Int)=((x&&&y:Nat):Int):=by
 grind [Nat.and_le_left,IntWalk.i64_in]
@[go_sem high] theorem dK {P:Program} {t:TypeId} {x y:Nat} (hx:x<9223372036854775808) (hy:y<9223372036854775808):Yk P .or t (.p (.int .i64 (x:Int))) (.p (.int .i64 (y:Int)))=some (.int .i64 ((x|||y:Nat):Int)):=by
 rw [Ri];exact ZU (fun q=>some (PV.int .i64 q)) (ZcQ x y hx hy)
@[go_sem high] theorem S5 {P:Program} {t:TypeId} {x y:Nat} (hx:x<9223372036854775808) (hy:y<9223372036854775808):Yk P .and t (.p (.int .i64 (x:Int))) (.p (.int .i64 (y:Int)))=some (.int .i64 ((x&&&y:Nat):Int)):=by
 rw [dI];exact ZU (fun q=>some (PV.int .i64 q)) (oN x y hx hy)
def pw (k:Nat):Nat:=2^k
theorem EQ (k:Nat):pw (k+1)=2*pw k:=by grind [pw]
theorem Kh {k m:Nat} (h:k<=m):pw k<=pw m:=Yt Za h
theorem F7 (k:Nat):0<pw k:=Nat.pow_pos Za
theorem F6 : pw 62=4611686018427387904:=by decide
@[go_sem high] theorem ZdE {P:Program} {t:TypeId} {k'} {a:Int} (h0:0<=a) (h1:a<=62):Yk P .shl t (.p (.int .i64 1)) (.p (.int k' a))=some (.int .i64 ((pw a.toNat:Nat):Int)):=by
 rw [dM h0]
 have h2:min a.toNat IntKind.i64.bits=a.toNat:=by show min a.toNat 64=a.toNat;omega
 rw [h2,Int.one_mul]
 have h3:((2:Int)^a.toNat)=((pw a.toNat:Nat):Int):=by simp [pw]
 rw [h3];have:=Kh (show a.toNat<=62 by omega)
 grind [F6,IntWalk.i64_in]
attribute [go_sem] List.length_append List.map_append not_false_eq_true not_true_eq_false false_and and_false true_or or_true false_or or_false Classical.not_not Bool.false_eq_true Bool.and_false Bool.false_and
end Go.AM
namespace Go.AM
open Go.RowKit
theorem Lb {P ds frJ H} {K K':List V->Prop} : ∀(l:List Oper) (i:Nat) (vals:List V),(∀ys,ys.length=vals.length+l.length->K ys->K' ys)->hd P ds frJ H K i l vals->hd P ds frJ H K' i l vals
 | [],i,vals,hk,h=>hk vals rfl h
 | o::l,i,vals,hk,h=>by
  have ih: ∀y,hd P ds frJ H K (i+1) l (vals++ [y])->hd P ds frJ H K' (i+1) l (vals++ [y]):=fun y=>Lb l (i+1) (vals++ [y]) fun ys hy=>hk ys (by simp at hy ⊢;omega);simp only [hd] at h ⊢
  split at h
  ·obtain ⟨y,h1,h2⟩:=h;exact ⟨y,h1,ih y h2⟩
  ·unfold XS at h ⊢
   split at h
   ·exact ⟨fun e=>by obtain ⟨y,h1,h2⟩:=h.1 e;exact ⟨y,h1,ih y h2⟩,fun e=>ih _ (h.2 e)⟩
   ·exact ih _ h
   ·exact h.elim
def hall : List (Option Nat)->List V->List V->List V
 | some d::ds,v::vals,fr=>hall ds vals (pt fr d v)
 | none::ds,_::vals,fr=>hall ds vals fr
 | _,_,fr=>fr
theorem Br (d:Option Nat) (v:V) (ds:List (Option Nat)) (vals:List V): ∀(l:List Nat) (fr:List V),ZP (d::ds) (v::vals) (l.map (· +1)) fr=ZP ds vals l fr
 | [],fr=>rfl
 | j::l,fr=>by
  simp only [Zr,ZP,Co]
  split<;>exact Br d v ds vals l _
theorem FH : ∀(ds:List (Option Nat)) (vals:List V) (fr:List V),vals.length=ds.length->ZP ds vals (List.range ds.length) fr=hall ds vals fr
 | [],[],fr,_=>rfl
 | d::ds,v::vals,fr,h=>by
  have ih:=fun fr=>FH ds vals fr (by simpa using h);rw [ZD,List.range_succ_eq_map]
  cases d with
  | none=>simp only [ZP,Ez,hall];rw [Br];exact ih fr
  | some d=>simp only [ZP,Ez,hall];rw [Br];exact ih _
 | [],_::_,_,h=>by simp at h
 | _::_,[],_,h=>by simp at h
theorem Ff {P:Program} {id:Nat} {l:List Oper} {fr:List V} {H:List Obj} {Q:Exit->List V->List Obj->Prop} {t} (hm:P.follows .mixedOrders=true) (hB:W8 (List.toArray l) l.length=true)
  (h:hd P (l.map (·.dst)) (Z3 (l.map (·.dst)) fr) H (Zu (fun vals=>Q .normal (hall (l.map (·.dst)) vals (Z3 (l.map (·.dst)) fr)) H) ⟨⟩) 0 l []) :
  AWP P (.region id (Zu (List.toArray l) t) true) fr H Q:=by
 refine Hg (ops:=List.toArray l) l.length hm hB ?_;have e0:(List.toArray l).toList=l:=rfl;rw [e0];have e1:(l.map (fun x=>Oper.dst x)).take l.length=l.map (·.dst):=Cq Zb;have e2:l.take l.length=l:=YV
 have e3:l.drop l.length= []:=Zb
 rw [e1,e2,e3];refine Lb _ _ _ (fun ys hy hk=> ?_) h;have e4:=FH (l.map (·.dst)) ys (Z3 (l.map (·.dst)) fr) (by grind);rw [Z1] at e4;simp only [YL];rw [e4];exact hk
def TP (A:V->Prop) (B:V->Prop):Prop:= ∃y,A y/\B y
section
variable {P : Program} {ds : List (Option Nat)} {frJ : List V} {H : List Obj} {K : List V -> Prop} {i : Nat} {r : List Oper} {vals : List V} {d : Option Nat} {op : Op} {t : TypeId} {ps : String} {af : Array Edge}
@[go_sem ↓] theorem Znl : hd P ds frJ H K i [] vals=K vals:=Zl rfl rfl
@[go_sem ↓] theorem ZlF : hd P ds frJ H K i (⟨d,op,t,ps,af,none⟩::r) vals=TP (fun y=>ZG P ⟨d,op,t,ps,af,none⟩ (Lc (ZP ds vals (ZN i ⟨d,op,t,ps,af,none⟩) frJ)) H (Zu (fun x H'=>x=y/\H'=H) ⟨⟩)) (Zu (fun y=>hd P ds frJ H K (i+1) r (vals++ [y])) ⟨⟩):=Zl rfl rfl
@[go_sem ↓, go_sem] theorem Znb {v:V} {B:V->Prop} {t} :TP (fun y=>v=y) (Zu B t)=B v:=by simp [TP,Zu]
@[go_sem] theorem Zex {l:List Edge} {g} :ZN i ⟨d,op,t,ps,List.toArray l,g⟩=(l.filter fun e=>Region.binds .any e&&decide (e.on<i)).map (·.on):=Zl rfl rfl
@[go_sem] theorem yQ {on} :Region.binds .any ⟨on,.data⟩=true:=Zl rfl rfl
@[go_sem] theorem vQ {on} :Region.binds .any ⟨on,.phase⟩=true:=Zl rfl rfl
@[go_sem] theorem vP {on} :Region.binds .any ⟨on,.chain⟩=true:=Zl rfl rfl
@[go_sem] theorem yR {on k} :Region.binds .any ⟨on,.textOnly k⟩=false:=Zl rfl rfl
@[go_sem] theorem Zhh {on k} :Region.binds .any ⟨on,.gcOnly k⟩=false:=Zl rfl rfl
def RW (ds:List (Option Nat)) (vals:List V) (l:List Nat) (fr:List V) (a:Option (Option Nat)) (v:Option V):List V:=match a,v with
 | some (some d),some v=>ZP ds vals l (pt fr d v)
 | _,_=>ZP ds vals l fr
@[go_sem] theorem ZhR {fr} :ZP ds vals [] fr=fr:=Zl rfl rfl
@[go_sem] theorem ZeH {j l fr} :ZP ds vals (j::l) fr=RW ds vals l fr ds[j]? vals[j]? :=by rfl
@[go_sem] theorem zX {l fr d v} :RW ds vals l fr (some (some d)) (some v)=ZP ds vals l (pt fr d v):=Zl rfl rfl
@[go_sem] theorem ZeB {d ds v vals fr} :hall (some d::ds) (v::vals) fr=hall ds vals (pt fr d v):=Zl rfl rfl
@[go_sem] theorem ZhL {fr} :hall [] [] fr=fr:=Zl rfl rfl
@[go_sem] theorem ZeG {fr} :Z3 [] fr=fr:=Zl rfl rfl
@[go_sem] theorem zW {d l fr} :Z3 (some d::l) fr=Z3 l (pt fr d .junk):=Zl rfl rfl
theorem Zo {f azs} {z:PV} {B:V->Prop} {t} (h:ACalls P f azs [] fun x H'=>x= .p z/\H'= []) (k:B (.p z)) (ha:Xn 0 azs=true:=by rfl) :
  TP (fun y=>ACalls P f azs H (Zu (Zu (fun x H'=>x=y/\H'=H) ⟨⟩) ⟨⟩)) (Zu B t) :=
 ⟨.p z,h.use ⟨rfl,rfl⟩ ha,k⟩
end
section
variable {P : Program} {fr : List V} {H : List Obj} {k : V -> List Obj -> Prop} {d : Option Nat} {t : TypeId} {ps : String} {af : Array Edge} {g : Option (Nat × Bool)}
@[go_sem ↓] theorem yD {u n l} :ZG P ⟨d,.buildSlice u n (List.toArray l),t,ps,af,g⟩ fr H k=Bz ((Rk (UU P u) H n (l.map fun x=>(x.1,ev fr x.2))).map .p) (Zu (fun v=>k v H) ⟨⟩):=by
 grind [ZG,Bz,Zu]
@[go_sem] theorem xL {S n l} :Rk (some S) H n l=if n=l.length/\n*S<=16777216/\0<S then (Jl H S 0 l).map (.list false) else none:=Zl rfl rfl
@[go_sem ↓] theorem vG {x} :ZG P ⟨d,.move x,t,ps,af,g⟩ fr H k=Zw P ⟨d,.move x,t,ps,af,g⟩ fr H k:=rfl
@[go_sem ↓] theorem nW {x} :ZG P ⟨d,.assign x,t,ps,af,g⟩ fr H k=Zw P ⟨d,.assign x,t,ps,af,g⟩ fr H k:=rfl
@[go_sem ↓] theorem vH {x y z} :ZG P ⟨d,.pick x y z,t,ps,af,g⟩ fr H k=Zw P ⟨d,.pick x y z,t,ps,af,g⟩ fr H k:=rfl
@[go_sem ↓] theorem pI {x} :ZG P ⟨d,.alloc x,t,ps,af,g⟩ fr H k=Zw P ⟨d,.alloc x,t,ps,af,g⟩ fr H k:=rfl
@[go_sem ↓] theorem yB {x y} :ZG P ⟨d,.box x y,t,ps,af,g⟩ fr H k=Zw P ⟨d,.box x y,t,ps,af,g⟩ fr H k:=rfl
@[go_sem ↓] theorem pK {x y} :ZG P ⟨d,.build x y,t,ps,af,g⟩ fr H k=Zw P ⟨d,.build x y,t,ps,af,g⟩ fr H k:=rfl
@[go_sem ↓] theorem vF {x y} :ZG P ⟨d,.load x y,t,ps,af,g⟩ fr H k=Zw P ⟨d,.load x y,t,ps,af,g⟩ fr H k:=rfl
@[go_sem ↓] theorem pO {x y z} :ZG P ⟨d,.store x y z,t,ps,af,g⟩ fr H k=Zw P ⟨d,.store x y z,t,ps,af,g⟩ fr H k:=rfl
@[go_sem ↓] theorem cQ {x} :ZG P ⟨d,.nilCheck x,t,ps,af,g⟩ fr H k=Zw P ⟨d,.nilCheck x,t,ps,af,g⟩ fr H k:=rfl
@[go_sem ↓] theorem pJ {x y z u v} :ZG P ⟨d,.binOp x y z u v,t,ps,af,g⟩ fr H k=Zw P ⟨d,.binOp x y z u v,t,ps,af,g⟩ fr H k:=rfl
@[go_sem ↓] theorem vI {x y z} :ZG P ⟨d,.unOp x y z,t,ps,af,g⟩ fr H k=Zw P ⟨d,.unOp x y z,t,ps,af,g⟩ fr H k:=rfl
@[go_sem ↓] theorem eJ {x y z} :ZG P ⟨d,.convert x y z,t,ps,af,g⟩ fr H k=Zw P ⟨d,.convert x y z,t,ps,af,g⟩ fr H k:=rfl
@[go_sem ↓] theorem cP {x y z} :ZG P ⟨d,.makeFunc x y z,t,ps,af,g⟩ fr H k=Zw P ⟨d,.makeFunc x y z,t,ps,af,g⟩ fr H k:=rfl
@[go_sem ↓] theorem Tl {x y z} :ZG P ⟨d,.makeSlice x y z,t,ps,af,g⟩ fr H k=Zw P ⟨d,.makeSlice x y z,t,ps,af,g⟩ fr H k:=rfl
@[go_sem ↓] theorem pN {x y z u v} :ZG P ⟨d,.slice x y z u v,t,ps,af,g⟩ fr H k=Zw P ⟨d,.slice x y z u v,t,ps,af,g⟩ fr H k:=rfl
@[go_sem ↓] theorem Ti {x y z} :ZG P ⟨d,.fieldAddr x y z,t,ps,af,g⟩ fr H k=Zw P ⟨d,.fieldAddr x y z,t,ps,af,g⟩ fr H k:=rfl
@[go_sem ↓] theorem pL {x y z} :ZG P ⟨d,.field x y z,t,ps,af,g⟩ fr H k=Zw P ⟨d,.field x y z,t,ps,af,g⟩ fr H k:=rfl
@[go_sem ↓] theorem Tj {x y z} :ZG P ⟨d,.indexAddr x y z,t,ps,af,g⟩ fr H k=Zw P ⟨d,.indexAddr x y z,t,ps,af,g⟩ fr H k:=rfl
@[go_sem ↓] theorem pM {x y z} :ZG P ⟨d,.index x y z,t,ps,af,g⟩ fr H k=Zw P ⟨d,.index x y z,t,ps,af,g⟩ fr H k:=rfl
@[go_sem ↓] theorem eK {x y} :ZG P ⟨d,.extract x y,t,ps,af,g⟩ fr H k=Zw P ⟨d,.extract x y,t,ps,af,g⟩ fr H k:=rfl
@[go_sem ↓] theorem vE {x y z} :ZG P ⟨d,.call ⟨.value x,y,z⟩,t,ps,af,g⟩ fr H k=Zw P ⟨d,.call ⟨.value x,y,z⟩,t,ps,af,g⟩ fr H k:=rfl
@[go_sem ↓] theorem yC {y z} :ZG P ⟨d,.call ⟨.builtin .len,y,z⟩,t,ps,af,g⟩ fr H k=Zw P ⟨d,.call ⟨.builtin .len,y,z⟩,t,ps,af,g⟩ fr H k:=rfl
@[go_sem ↓] theorem yE {y z} :ZG P ⟨d,.call ⟨.builtin .max,y,z⟩,t,ps,af,g⟩ fr H k=Zw P ⟨d,.call ⟨.builtin .max,y,z⟩,t,ps,af,g⟩ fr H k:=rfl
@[go_sem ↓] theorem yF {y z} :ZG P ⟨d,.call ⟨.builtin .min,y,z⟩,t,ps,af,g⟩ fr H k=Zw P ⟨d,.call ⟨.builtin .min,y,z⟩,t,ps,af,g⟩ fr H k:=rfl
def RJ (P:Program) (H:List Obj) (t u:TypeId) (x y:V) (k:V->List Obj->Prop):Prop:= ∃S zs,W5 P H t u x y=some (.sl H.length 0 zs.length zs.length,H++ [.elems S zs])/\k (.p (.list false zs)) H
@[go_sem ↓] theorem nV {x y u u2} :ZG P ⟨d,.call ⟨.builtin .append,#[x,y],#[u,u2]⟩,t,ps,af,g⟩ fr H k=RJ P H u u2 (ev fr x) (ev fr y) (Zu k ⟨⟩):=rfl
def Tf (F:Option (Nat×Nat)) (xs:List PV) (ys:Option (List PV)):Option PV:=match F,ys with
 | some (S,by'),some ys=>if KQ S ys=true/\KQ S xs=true/\(xs= []\/0<ys.length)/\(xs.length+ys.length)*by'<=140737488355328/\xs.length+ys.length<=140737488355328 then some (.list false (xs++ys)) else none
 | _,_=>none
@[go_sem] theorem Zec {α:Type} {S b} {f:α->PV} {l:List α} {x:PV} (hb:(l.length+1)*b<=140737488355328) (hb2:l.length+1<=140737488355328):Tf (some (S,b)) (l.map f) (some [x])=if KQ S [x]=true/\KQ S (l.map f)=true then some (.list false (l.map f++ [x])) else none:=by
 grind [Tf]
theorem Pa {u u2:TypeId} {F} {xs:List PV} {y:V} (hF:QP P u=some F) {tt} :RJ P H u u2 (.p (.list true xs)) y (Zu k tt)=Bz ((Tf (some F) xs (YK (P.underlying u2) H y)).map .p) (Zu (fun v=>k v H) ⟨⟩):=by
 obtain ⟨S,by'⟩:=F;obtain ⟨e,z,h1,h2,h3,h4,h6⟩:=Fb hF;have e1:YK (P.underlying u2) H y=GS P H u2 y:=Zl rfl rfl;rw [e1];unfold RJ Zu
 cases h5:GS P H u2 y with
 | none =>
  grind [W5,Tf,Bz]
 | some ys =>
  rw [It h1 h2 h3 h4 h5 h6];simp only [Tf]
  by_cases hc:KQ S ys=true
  ·rw [if_pos hc];simp only [hc,true_and]
   by_cases hd:KQ S xs=true/\(xs= []\/0<ys.length)/\(xs.length+ys.length)*by'<=140737488355328/\xs.length+ys.length<=140737488355328
   ·rw [if_pos hd,if_pos hd];simp only [Ay,Bz,eq_iff_iff]
    constructor
    ·simp_all
    ·intro hk;exact ⟨S,xs++ys,Zb,hk⟩
   simp_all [if_neg,Bz]
  ·simp [hc,Bz]
theorem IJ {o fr' H'} (h:fr=fr') (h2:H=H'):ZG P o fr H k=ZG P o fr' H' k:=by rw [h,h2]
end
attribute [congr] IJ
attribute [go_sem] List.filter_cons List.filter_nil
end Go.AM
namespace Go.AM
open Go.RowKit
mutual
/-- no memory in it -/
def Pi : PV->Bool
 | .list _ xs=>xs.isEmpty
 | .agg cs=>MV cs
 | _=>true
def MV : List PV->Bool
 | []=>true
 | x::l=>Pi x&&MV l
end
theorem Aj : ∀ {l:List PV},MV l=true-> ∀(j:Nat) (x:PV),l[j]? =some x->Pi x=true
 | [],_,j,x,h=>by simp at h
 | y::l,hh,j,x,h=>by
  simp [MV] at hh
  cases j with
  | zero=>simp at h;subst h;exact hh.1
  | succ j=>exact Aj hh.2 j x (by simpa using h)
theorem RP.anywhere {X X':Nat->Prop} {w w' x v} (h:RP X w x v) (hf:Pi x=true):RP X' w' x v:=by
 induction h with
 | int k n=>exact .int k n
 | bool b=>exact .bool b
 | str s=>exact .str s
 | nilp=>exact .nilp
 | nili=>exact .nili
 | nilf=>exact .nilf
 | nilm=>exact .nilm
 | fn f=>exact .fn f
 | nils cl=>exact .nils cl
 | emp cl a cap hc hm ha=>exact .emp cl a cap hc hm ha
 | list cl xs b off cap S u hX hb hc hm hcl hS hu hr ih =>
  have:xs= []:=by grind [Pi]
  subst this;exact .emp cl _ cap (fun h=>by grind) hm (fun _ x hx=>by grind)
 | agg cs a hs _ ih=>exact .agg cs a hs fun j c hj=>ih j c hj (Aj (by grind [Pi]) j c hj)
def vw (H:List Obj):V->Option V
 | .p x=>some (.p x)
 | .fn f [] []=>some (.fn f [] [])
 | .sl o off len tot=>match oat H o with
  | .elems _ xs=>if xs.length=tot/\off+len<=tot then some (.p (.list false ((xs.take (off+len)).drop off))) else none
  | _=>none
 | _=>none
def vws (H:List Obj):List V->Option (List V)
 | []=>some []
 | x::l=>match vw H x,vws H l with | some y,some ys=>some (y::ys) | _,_=>none
abbrev A1 : Nat->Prop:=fun _=>False
theorem CK {b:Nat} : ¬Own A1 [] b:=by simp [Own]
theorem ZjC {F H ι w x v y} (hr:Rel F H ι w) (h:RV F H ι w x v) (hy:vw H x=some y):RV A1 [] [] w y v:=by
 unfold vw at hy
 split at hy
 ·simp at hy;subst hy
  cases h with | p _ _ h=>exact .p _ _ (h.weaker fun b hb=>absurd hb CK)
 ·simp at hy;subst hy;generalize v=u at h
  cases h with
  | fn _ _ _ a e hs ht _ _=>exact .fn _ [] [] a e hs ht (fun j c hj=>by simp at hj) (fun j c hj=>by simp at hj)
 ·rename_i o off len tot
  split at hy
  ·rename_i S xs ho
   split at hy
   ·rename_i hc;simp at hy;subst hy;exact .p _ _ (BD _ (fun b _ hb=>CK hb) (fun b _ hs=>⟨CK,hs,rfl⟩) hr (Xx ho Zb) hc.1 hc.2 h)
   ·cases hy
  ·cases hy
 ·cases hy
theorem SZ {H} : ∀ {l l':List V},vws H l=some l'->l'.length=l.length/\ ∀(j:Nat) (y:V),l'[j]? =some y-> ∃x,l[j]? =some x/\vw H x=some y
 | [],l',h=>by simp [vws] at h;grind
 | x::l,l',h=>by
  simp only [vws] at h
  split at h
  ·rename_i y ys h1 h2;simp at h;subst h;obtain ⟨e,hg⟩:=SZ h2;refine ⟨by simp [e],fun j z hj=> ?_⟩
   cases j with
   | zero=>simp at hj;subst hj;exact ⟨x,Zb,h1⟩
   | succ j=>obtain ⟨q,q1,q2⟩:=hg j z (by simpa using hj);exact ⟨q,by simpa using q1,q2⟩
  ·cases h
theorem Good.lift {F H ι w H1 ι1 w'} (hr:Rel F H ι w) (g:Good A1 [] [] w H1 ι1 w') (h1: ∀(o:Nat) (ob:Obj),H1[o]? =some ob-> ∃S xs,ob= .elems S xs/\MV xs=true):Good (Own F ι) [] [] w H1 ι1 w':=by
 have hnew: ∀b,some b∈ι1-> ¬b<w.heap.size:=fun b hb hlt=>g.own b hlt Zb hb
 have hold: ∀b,Own F ι b->b<w.heap.size:=fun b hb=>by
  rcases hb with hb | hb
  ·exact hr.fin b hb
  ·obtain ⟨i,hi⟩:=Xh.1 hb;exact (hr.avo i b hi).2
 refine Good.up hr.env.fresh ⟨⟨g.rel.len,fun b hb=>by have:=hold b hb;have:=g.size;omega,g.rel.inj,fun i b hi=> ?_,fun o cs ho=> ?_,fun o S xs ho=> ?_,fun o es ho=>(by grind),fun o T E r bs ho=>(by grind)⟩,g.os,g.tape,g.output,g.shape,g.size,g.keep,g.own,g.hx⟩
 ·refine ⟨fun hb=>hnew b (XD hi) (hold b hb),(g.rel.avo i b hi).2⟩
 ·grind
 ·rcases g.rel.elm o S xs ho with e | ⟨b,c,t,cap,e1,e2,e3,e4,e5,e6,e7⟩
  ·exact .inl e
  ·refine .inr ⟨b,c,t,cap,e1,e2,e3,e4,e5,e6,fun i x j y hi hj=> ?_⟩;obtain ⟨S',xs',e,hf⟩:=h1 o _ ho;simp at e;obtain ⟨rfl,rfl⟩:=e;have hx:=Aj hf i x hi;refine (e7 i x j y hi hj).anywhere ?_
   cases x<;>simp only [PV.cells] at hj
   case agg cs=>grind [Aj,Pi]
   all_goals (cases j with
    | zero=>simp at hj;subst hj;exact hx
    | succ j=>simp at hj)
theorem Gb {w:World} (he:Env A1 [] w):Rel A1 [] [] w:=⟨⟨rfl,fun b hb=>hb.elim,fun i j b hi=>by simp at hi,fun i b hi=>by simp at hi,fun o cs ho=>by simp at ho,fun o S xs ho=>by simp at ho,fun o es ho=>by simp at ho,fun o T E r bs ho=>by simp at ho⟩,he⟩
theorem ACalls.view {P g args args'} {y:PV} {H:List Obj} {K:V->List Obj->Prop} (h:ACalls P g args' [] fun x H'=>x= .p y/\H'= []) (hv:vws H args=some args') (hy:Pi y=true) (k:K (.p y) H):ACalls P g args H K:=by
 refine ⟨h.1,fun F ι w vs hr hvs=> ?_⟩;obtain ⟨e,hg⟩:=SZ hv;refine (h.2 A1 [] w vs (Gb hr.env.noth) ⟨by rw [hvs.1,e],fun j c hj=> ?_⟩).mono ?_
 ·obtain ⟨x,h1,h2⟩:=hg j c hj;exact ZjC hr (hvs.2 j x h1) h2
 ·rintro e w' ⟨x,H',ι',v,rfl,⟨rfl,rfl⟩,gd,rv⟩;have g2:=(gd.lift hr (fun o ob ho=>by simp at ho)).behind hr;have hι:ι'= []:=YC gd.rel.len;subst hι;simp only [Zn,Wp] at g2
  cases rv with | p _ _ rp =>
  exact ⟨_,H,ι,v,rfl,k,g2,.p _ _ (rp.anywhere hy)⟩
def rd1 (H:List Obj):V->Option PV
 | .p x=>some x
 | .sl o off len tot=>match oat H o with
  | .elems _ xs=>if xs.length=tot/\off+len<=tot then some (.list false ((xs.take (off+len)).drop off)) else none
  | _=>none
 | _=>none
def rds (H:List Obj):List V->Option (List PV)
 | []=>some []
 | x::l=>match rd1 H x,rds H l with | some y,some ys=>some (y::ys) | _,_=>none
def rd (H:List Obj):V->Option PV
 | .agg cs=>(rds H cs).map .agg
 | x=>rd1 H x
@[go_sem] theorem ZkY {o off len tot r} :Qq (.sl o off len tot::r)=none:=Zl rfl rfl
attribute [go_sem] Option.map_none
end Go.AM
namespace Go.Proofs.YtenjikkmmibffaaGreatDoor.K
open Go Go.AM
def Ed (be:List (Int×Int)) (a b:Nat):Prop:= ∃p∈be,p.1=(a:Int)/\p.2=(b:Int)
inductive Ch (be:List (Int×Int)):Nat->Nat->Prop where
 | one {a b} (h:Ed be a b):Ch be a b
 | more {a b c} (h:Ch be a b) (k:Ed be b c):Ch be a c
def Val (n:Nat) (be:List (Int×Int)):Prop:= ∀p∈be,0<=p.1/\p.1<n/\0<=p.2/\p.2<n
def Ej (out:List Nat) (p:Int×Int):List Nat:=out.set p.2.toNat (nth out p.2.toNat|||nth out p.1.toNat|||pw p.1.toNat)
def EO (out:List Nat) (be:List (Int×Int)):List Nat:=be.foldl Ej out
structure Snd (n:Nat) (be:List (Int×Int)) (out:List Nat):Prop where
 len:out.length=n
 lt: ∀b,b<n->nth out b<pw n
 snd: ∀a b,b<n->(nth out b).testBit a=true->Ch be a b
structure Clo (n:Nat) (be:List (Int×Int)) (out:List Nat):Prop extends Snd n be out where
 cmp: ∀a b,Ch be a b->(nth out b).testBit a=true
theorem EK (l:List Nat) (i j v:Nat) (h:j<l.length):nth (l.set i v) j=if i=j then v else nth l j:=by
 grind [nth]
theorem Snd.zero (n be):Snd n be (List.replicate n 0):=by
 refine ⟨Zb,fun b hb=> ?_,fun a b hb h=> ?_⟩
 ·grind [Zh,F7]
 grind [Zh]
theorem Ka (a b:Nat):(pw a).testBit b=decide (a=b):=by grind [pw]
theorem Snd.step {n be out} (hv:Val n be) (hs:Snd n be out) {p} (hp:p∈be):Snd n be (Ej out p):=by
 obtain ⟨h1,h2,h3,h4⟩:=hv p hp;refine ⟨by simp [Ej,hs.len],fun b hb=> ?_,fun a b hb h=> ?_⟩
 ·rw [Ej,EK _ _ _ _ (by rw [hs.len];exact hb)]
  split
  ·have e1:=hs.lt p.2.toNat Za;have e2:=hs.lt p.1.toNat Za
   have e3:pw p.1.toNat<pw n:=by
    have:=EQ p.1.toNat;have h5:pw (p.1.toNat+1)<=pw n:=Kh Za;omega
   exact Q0 (Q0 e1 e2) e3
  ·exact hs.lt b hb
 ·rw [Ej,EK _ _ _ _ (by rw [hs.len];exact hb)] at h
  split at h
  ·rename_i hb2;have hE:Ed be p.1.toNat b:=⟨p,hp,Za,Za⟩;simp only [Az,Vh] at h;rcases h with (h | h) | h
   ·exact hs.snd a b hb (by grind)
   ·exact (hs.snd a _ Za h).more hE
   ·rw [Ka] at h;simp at h;subst h;exact .one hE
  ·exact hs.snd a b hb h
theorem Snd.rnd {n be out} (hv:Val n be) (hs:Snd n be out): ∀(l:List (Int×Int)),(∀p∈l,p∈be)->Snd n be (EO out l):=by
 intro l
 induction l generalizing out with
 | nil=>intro _;exact hs
 | cons p l ih=>intro h;exact ih (hs.step hv (h p Zb)) fun q hq=>h q (by simp [hq])
theorem wI (x y:Nat):x<=x|||y:=Nat.left_le_or
def tot (l:List Nat):Nat:=l.foldr (· + ·) 0
theorem SS : ∀(l:List Nat) (i v:Nat),i<l.length->tot (l.set i v)+nth l i=tot l+v
 | [],i,v,h=>by simp at h
 | x::l,0,v,h=>by simp [tot,nth];omega
 | x::l,i+1,v,h=>by
  have:=SS l i v (by simpa using h);simp only [Z6,tot,List.foldr_cons,nth,List.getD_cons_succ] at this ⊢;omega
theorem nG : ∀(l:List Nat) (m:Nat),(∀i,i<l.length->nth l i<m)->tot l<=l.length*m
 | [],m,h=>by simp [tot]
 | x::l,m,h=>by
  have h0:=h 0 Zb
  have:=nG l m fun i hi=>by have:=h (i+1) (by grind);grind [nth]
  grind [tot,XR,nth]
theorem RC (out:List Nat) (p:Int×Int) (h:p.2.toNat<out.length):tot out<=tot (Ej out p)/\(tot (Ej out p)=tot out->Ej out p=out):=by
 have e:=SS out p.2.toNat (nth out p.2.toNat|||nth out p.1.toNat|||pw p.1.toNat) h;have h1:nth out p.2.toNat<=nth out p.2.toNat|||nth out p.1.toNat|||pw p.1.toNat:=AC (wI _ _) (wI _ _);refine ⟨by rw [Ej];omega,fun he=> ?_⟩;rw [Ej] at he ⊢
 have:nth out p.2.toNat|||nth out p.1.toNat|||pw p.1.toNat=nth out p.2.toNat:=Za
 simp_all [Zh]
theorem PE (out l m):EO out (l++m)=EO (EO out l) m:=by grind [EO]
theorem CL {n be} (hv:Val n be): ∀(l:List (Int×Int)) (out:List Nat),(∀p∈l,p∈be)->Snd n be out->tot out<=tot (EO out l)/\(tot (EO out l)=tot out->EO out l=out/\ ∀p∈l,Ej out p=out)
 | [],out,_,_=>⟨ZA _,fun _=>⟨rfl,fun p hp=>by simp at hp⟩⟩
 | p::l,out,hl,hs=>by
  obtain ⟨h1,h2,h3,h4⟩:=hv p (hl p Zb);have c:=RC out p (by rw [hs.len];omega);have r:=CL hv l (Ej out p) (fun q hq=>hl q (by simp [hq])) (hs.step hv (hl p Zb));refine ⟨AC c.1 r.1,fun e=> ?_⟩;have e:tot (EO (Ej out p) l)=tot out:=e
  have e1:tot (Ej out p)=tot out:=Za
  have e2:=c.2 e1
  have e3:tot (EO (Ej out p) l)=tot (Ej out p):=Za
  obtain ⟨e4,e5⟩:=r.2 e3;rw [e2] at e4 e5;refine ⟨by grind [EO],fun q hq=> ?_⟩
  grind
theorem Snd.clo {n be out} (hv:Val n be) (hs:Snd n be out) (h:tot (EO out be)=tot out):Clo n be out:=by
 have hc:=((CL hv be out (fun _ h=>h) hs).2 h).2
 have key: ∀p∈be,∀a,(a=p.1.toNat\/(nth out p.1.toNat).testBit a=true)->(nth out p.2.toNat).testBit a=true:=fun p hp a ha=>by
  obtain ⟨h1,h2,h3,h4⟩:=hv p hp;have e:=hc p hp
  have e2:nth (Ej out p) p.2.toNat=nth out p.2.toNat:=by rw [e]
  rw [Ej,EK _ _ _ _ (by rw [hs.len];omega)] at e2;simp only [if_true] at e2;rw [<- e2];simp only [Az,Vh,Ka,Zq]
  grind
 refine ⟨hs,fun a b hab=> ?_⟩
 induction hab with
 | one h =>
  obtain ⟨p,hp,e1,e2⟩:=h;have:=key p hp p.1.toNat (.inl rfl)
  grind
 | more _ h ih =>
  obtain ⟨p,hp,e1,e2⟩:=h;have:=key p hp _ (.inr (by rw [e1];exact ih))
  grind
theorem Clo.uniq {n be out out'} (hv:Val n be) (h:Clo n be out) (h':Clo n be out'):out=out':=by
 apply Q1 (by rw [h.len,h'.len]);intro b h1 h2;rw [<- Zh h1,<- Zh h2];apply Cu;intro a;rw [Wq];rw [h.len] at h1;exact ⟨fun e=>h'.cmp a b (h.snd a b h1 e),fun e=>h.cmp a b (h'.snd a b h1 e)⟩
theorem Snd.bound {n be out} (hs:Snd n be out):tot out<=n*pw n:=by
 have:=nG out (pw n) fun i hi=>hs.lt i (by rw [<- hs.len];exact hi);rwa [hs.len] at this
theorem fT {n be} (hv:Val n be): ∀(k:Nat) (out:List Nat),Snd n be out->n*pw n-tot out<k-> ∃out',Clo n be out'
 | 0,out,_,h=>Za
 | k+1,out,hs,h=>by
  by_cases he:tot (EO out be)=tot out
  ·exact ⟨out,hs.clo hv he⟩
  ·have hp:=hs.rnd hv be fun _ h=>h;have:=hp.bound;have:=(CL hv be out (fun _ h=>h) hs).1;exact fT hv k (EO out be) hp Za
noncomputable def Kc (n:Nat) (be:List (Int×Int)):List Nat:=open Classical in if h: ∃out,Clo n be out then h.choose else []
theorem Fo {n be} (hv:Val n be):Clo n be (Kc n be):=by
 have h:=fT hv _ (List.replicate n 0) (Snd.zero n be) (Nat.lt_succ_self _);rw [Kc,dif_pos h]
 grind
theorem fS {n be out} (hv:Val n be) (h:Clo n be out):Kc n be=out:=(Fo hv).uniq hv h
theorem UZ {n be} (hv:Val n be) (a b:Nat) (hb:b<n):(nth (Kc n be) b).testBit a=true↔Ch be a b :=
 ⟨(Fo hv).snd a b hb,(Fo hv).cmp a b⟩
end Go.Proofs.YtenjikkmmibffaaGreatDoor.K
