/- Declarations that the closing texts need, part 4: joined by tools/slim.py. -/
import Derived.Test.YtiigdaohjanidaaGreatDoorH3
set_option linter.unusedVariables false
set_option linter.unusedSimpArgs false
universe u
namespace Go.AM
open Go.RowKit
structure Tk {α:Sort u} (a:α):Type where
def Zu {α:Sort u} (a:α) (_:Tk a):α:=a
@[go_sem] theorem Zc7 {α β:Type} {f:α->β} {t x} :Zu f t x=f x:=Zh rfl rfl
@[go_sem ↓] theorem Zc8 {α β:Type} {f:α->β->Prop} {t x y} :Zu f t x y=f x y:=Zh rfl rfl
@[go_sem ↓] theorem Zc9 {α β γ:Type} {f:α->β->γ->Prop} {t x y z} :Zu f t x y z=f x y z:=Zh rfl rfl
def AN (x:Option V) (K:V->Prop):Prop:=match x with | some v=>K v | none=>False
def Ao (x:Option (V×List Obj)) (K:V->List Obj->Prop):Prop:=match x with | some (v,H)=>K v H | none=>False
def bst (x:V) (K:Bool->Prop):Prop:=match x with | .p (.bool b)=>K b | _=>False
def hst (x:Option (List Obj)) (K:List Obj->Prop):Prop:=match x with | some H=>K H | none=>False
@[go_sem ↓, go_sem] theorem ZhH {v K} :AN (some v) K=K v:=Zh rfl rfl
@[go_sem ↓, go_sem] theorem Zhp {v H K} :Ao (some (v,H)) K=K v H:=Zh rfl rfl
@[go_sem ↓, go_sem] theorem ZgF {H K} :hst (some H) K=K H:=Zh rfl rfl
@[congr] theorem Zdr {x x' K} (h:x=x'):AN x K=AN x' K:=by rw [h]
@[congr] theorem Zdk {x x' K} (h:x=x'):Ao x K=Ao x' K:=by rw [h]
@[congr] theorem Zdc {x x' K} (h:x=x'):hst x K=hst x' K:=by rw [h]
def MO (fr:List V):List V:=fr
@[go_sem] theorem ZlN {fr} :MO fr=fr:=Zh rfl rfl
section code
variable {cuts : List Nat} {P : Program} {fr : List V} {H : List Obj} {Q : Exit -> List V -> List Obj -> Prop}
@[go_sem ↓] theorem ZcU : Q5 cuts P .skip fr H Q=Q .normal fr H:=Zh rfl rfl
@[go_sem ↓] theorem rK {id} {l:List Oper} :Q5 cuts P (.region id l.toArray false) fr H Q=Yz P (l.map (·.dst)) l (MO fr) H (Zu (Q .normal) ⟨⟩):=by rfl
@[go_sem ↓] theorem uN {id ops} :Q5 cuts P (.region id ops true) fr H Q=AWP P (.region id (Zu ops ⟨⟩) true) fr H (Zu Q ⟨⟩):=by rfl
@[go_sem ↓] theorem Zf7 {x y} :Q5 [] P (.seq x y) fr H Q=Q5 [] P x fr H (QS (fun fr H=>Q5 [] P y fr H Q) Q):=by
 grind [Q5]
def iB (b:Bool) (A B:Prop):Prop:=if b then A else B
def IY (cuts:List Nat):Option Nat->Bool
 | some i=>cuts.contains i
 | none=>false
@[go_sem ↓] theorem ZcT {k x y} :Q5 (k::cuts) P (.seq x y) fr H Q=iB (IY (k::cuts) (HE x)) (Zu (AWP P (.seq (Zu x ⟨⟩) (Zu y ⟨⟩)) fr H (Zu Q ⟨⟩)) ⟨⟩) (Zu (Q5 (k::cuts) P x fr H (QS (fun fr H=>Q5 (k::cuts) P y fr H Q) Q)) ⟨⟩):=by
 rfl
@[go_sem ↓, go_sem] theorem Zdw {A B:Prop} {t} :iB true (Zu A t) B=A:=by rfl
@[go_sem ↓, go_sem] theorem ZbD {A B:Prop} {t} :iB false A (Zu B t)=B:=by rfl
theorem N7 {b b' A B} (h:b=b'):iB b A B=iB b' A B:=by rw [h]
@[go_sem ↓] theorem vZ {id ops d} :HE (.region id ops d)=some id:=Zh rfl rfl
@[go_sem ↓] theorem ZjT {x y} :HE (.seq x y)=HE x:=Zh rfl rfl
@[go_sem ↓] theorem Zc6 {id c} :HE (.block id c)=HE c:=Zh rfl rfl
@[go_sem ↓] theorem ZgA {c x y} :HE (.cond c x y)=none:=Zh rfl rfl
@[go_sem ↓] theorem ZgC {c} :HE (.loop c)=none:=Zh rfl rfl
@[go_sem] theorem vJ : IY cuts none=false:=Zh rfl rfl
@[go_sem] theorem Zc0 {i} :IY [] (some i)=false:=Zh rfl rfl
@[go_sem] theorem vI {k i} :IY (k::cuts) (some i)=(decide (i=k)||IY cuts (some i)):=by rfl
@[go_sem ↓] theorem ZcP {c x y} :Q5 cuts P (.cond c x y) fr H Q=Vz (ev fr c) (Zu (Q5 cuts P x fr H Q) ⟨⟩) (Zu (Q5 cuts P y fr H Q) ⟨⟩):=Zh rfl rfl
@[go_sem ↓] theorem uM {id c} :Q5 cuts P (.block id c) fr H Q=Q5 cuts P c fr H (Up id Q):=Zh rfl rfl
@[go_sem ↓] theorem ZcQ {id} :Q5 cuts P (.exit id) fr H Q=Q (.exit id) fr H:=Zh rfl rfl
@[go_sem ↓] theorem Zf6 : Q5 cuts P .ret fr H Q=Q .ret fr H:=Zh rfl rfl
@[go_sem ↓] theorem ZcS {c} :Q5 cuts P (.loop c) fr H Q=AWP P (.loop (Zu c ⟨⟩)) fr H (Zu Q ⟨⟩):=Zh rfl rfl
@[go_sem ↓] theorem ZcR {c t} :Q5 cuts P (Zu c t) fr H Q=Q5 cuts P c fr H Q:=Zh rfl rfl
theorem Rr {c fr' H'} (h:fr=fr') (h2:H=H'):Q5 cuts P c fr H Q=Q5 cuts P c fr' H' Q:=by rw [h,h2]
theorem P6 {c fr' H'} (h:fr=fr') (h2:H=H'):AWP P c fr H Q=AWP P c fr' H' Q:=by rw [h,h2]
@[go_sem ↓] theorem oY {A:List V->List Obj->Prop} :QS A Q .normal fr H=A fr H:=Zh rfl rfl
@[go_sem ↓] theorem ZbJ {A:List V->List Obj->Prop} {id} :QS A Q (.exit id) fr H=Q (.exit id) fr H:=Zh rfl rfl
@[go_sem ↓] theorem Zeo {A:List V->List Obj->Prop} :QS A Q .ret fr H=Q .ret fr H:=Zh rfl rfl
@[go_sem ↓] theorem jJ {id} :Up id Q .normal fr H=Q .normal fr H:=Zh rfl rfl
@[go_sem ↓] theorem uR {id} :Up id Q .ret fr H=Q .ret fr H:=Zh rfl rfl
@[go_sem ↓] theorem rN {id id'} :Up id Q (.exit id') fr H=if id'=id then Q .normal fr H else Q (.exit id') fr H:=Zh rfl rfl
theorem Mw {A:List V->List Obj->Prop} {e fr' H'} (h:fr=fr') (h2:H=H'):QS A Q e fr H=QS A Q e fr' H':=by rw [h,h2]
theorem Hk {id e fr' H'} (h:fr=fr') (h2:H=H'):Up id Q e fr H=Up id Q e fr' H':=by rw [h,h2]
@[go_sem ↓] theorem sN {rs} {Q:V->List Obj->Prop} :JL P rs Q .normal fr H=Ao ((Yw P fr H rs).map fun xs=>(Vd xs,H)) (Zu Q ⟨⟩):=by
 simp only [JL,Zu];grind [Ao]
@[go_sem ↓] theorem ZhM {rs} {Q:V->List Obj->Prop} :JL P rs Q .ret fr H=Ao ((Yw P fr H rs).map fun xs=>(Vd xs,H)) (Zu Q ⟨⟩):=by
 simp only [JL,Zu];grind [Ao]
theorem N3 {rs e fr' H'} {Q:V->List Obj->Prop} (h:fr=fr') (h2:H=H'):JL P rs Q e fr H=JL P rs Q e fr' H':=by rw [h,h2]
@[go_sem] theorem Zby : Yw P fr H []=some []:=Zh rfl rfl
@[go_sem] theorem Zbz {t l} :Yw P fr H (.tmp t::l)=(Yw P fr H l).map (gt fr t:: ·):=by
 simp only [Yw,SN];cases Yw P fr H l<;>rfl
@[go_sem] theorem sL {a t l} :Yw P fr H (.cell a t::l)=(Qz P H t (gt fr a)).bind fun x=>(Yw P fr H l).map (x:: ·):=by
 simp only [Yw,SN];cases Qz P H t (gt fr a)<;>cases Yw P fr H l<;>rfl
@[go_sem] theorem ZbA {x} :Vd [x]=x:=Zh rfl rfl
@[go_sem] theorem sM : Vd []= .tup []:=Zh rfl rfl
@[go_sem] theorem N2 {x y l} :Vd (x::y::l)= .tup (x::y::l):=Zh rfl rfl
end code
attribute [congr] N7 Rr P6 Mw Hk N3
@[go_sem] theorem ZjR {x:V} {l} :gt (x::l) 0=x:=Zh rfl rfl
@[go_sem] theorem ZjQ {x:V} {l n} :gt (x::l) (n+1)=gt l n:=Zh rfl rfl
@[go_sem] theorem ZlK {n} :gt [] n= .junk:=Zh rfl rfl
@[go_sem] theorem Zkf {x v:V} {l} :pt (x::l) 0 v=v::l:=Zh rfl rfl
@[go_sem] theorem Zke {x v:V} {l n} :pt (x::l) (n+1) v=x::pt l n v:=Zh rfl rfl
@[go_sem] theorem ZhJ {fr d v} :Wa fr (some d) v=pt fr d v:=Zh rfl rfl
@[go_sem] theorem ZhI {fr v} :Wa fr none v=fr:=Zh rfl rfl
@[go_sem] theorem Zhv {x:Obj} {l} :oat (x::l) 0=x:=Zh rfl rfl
@[go_sem] theorem Zhu {x:Obj} {l n} :oat (x::l) (n+1)=oat l n:=Zh rfl rfl
@[go_sem] theorem ZhC {x v:Obj} {l} :EK (x::l) 0 v=v::l:=Zh rfl rfl
@[go_sem] theorem ZhB {x v:Obj} {l n} :EK (x::l) (n+1) v=x::EK l n v:=Zh rfl rfl
@[go_sem] theorem ZjF {fr t} :evx fr (.tmp t)=gt fr t:=Zh rfl rfl
@[go_sem] theorem vQ {fr g} :evx fr (.global g)=dC g:=Zh rfl rfl
@[go_sem] theorem Zly {fr t} :ev fr (.tmp t)=gt fr t:=Zh rfl rfl
@[go_sem] theorem ZjC {fr f} :ev fr (.func f)= .fn (.func f) [] []:=Zh rfl rfl
@[go_sem] theorem Zlw {fr k n} :ev fr (.const (.int k n))= .p (.int k n):=Zh rfl rfl
@[go_sem] theorem ZjB {fr b} :ev fr (.const (.bool b))= .p (.bool b):=Zh rfl rfl
@[go_sem] theorem Zlx {fr s} :ev fr (.const (.string s))= .p (.str s.data.toList):=Zh rfl rfl
@[go_sem] theorem ZjE {fr} :ev fr (.const (.slice none 0 0))= .p (.list true []):=Zh rfl rfl
@[go_sem] theorem ZjD {fr} :ev fr (.const (.pointer none))= .p .nilp:=Zh rfl rfl
@[go_sem] theorem Zlv {fr l} :ev fr (.const (.agg (List.toArray l)))=match vL l with | some xs=> .p (.agg xs) | none=> .junk:=Zh rfl rfl
@[go_sem] theorem Zgu {fr d} {l:List (Option Nat)} :B7 fr (some d::l) 0=gt fr d:=by simp [B7]
@[go_sem] theorem Zgt {fr o n} {l:List (Option Nat)} :B7 fr (o::l) (n+1)=B7 fr l n:=by simp [B7]
section ops
variable {P : Program} {fr : List V} {H : List Obj} {ds : List (Option Nat)} {K : List V -> List Obj -> Prop} {r : List Oper} {d : Option Nat} {t : TypeId} {ps : String} {af : Array Edge} {g : Option (Nat × Bool)} {k : V -> List Obj -> Prop}
theorem M0 {l fr' H'} (h:fr=fr') (h2:H=H'):Yz P ds l fr H K=Yz P ds l fr' H' K:=by rw [h,h2]
theorem II {o fr' H'} (h:fr=fr') (h2:H=H'):Zs P o fr H k=Zs P o fr' H' k:=by rw [h,h2]
@[go_sem ↓] theorem ZfV : Yz P ds [] fr H K=K fr H:=Zh rfl rfl
@[go_sem] theorem Zcz {op} :Yz P ds (⟨d,op,t,ps,af,none⟩::r) fr H K=Zs P ⟨d,op,t,ps,af,none⟩ fr H (Zu (fun x H'=>Yz P ds r (Wa fr d x) H' K) ⟨⟩):=Zh rfl rfl
@[go_sem] theorem tO {op j b} :Yz P ds (⟨d,op,t,ps,af,some (j,b)⟩::r) fr H K=Xq (B7 fr ds j) b (Zu (Zs P ⟨d,op,t,ps,af,none⟩ fr H (Zu (fun x H'=>Yz P ds r (Wa fr d x) H' K) ⟨⟩)) ⟨⟩) (Zu (Yz P ds r (Wa fr d (.tup [])) H K) ⟨⟩):=by
 rfl
theorem XB {op:Op} (h:YA op=none) (h2:Wl P op fr H=none):Zs P ⟨d,op,t,ps,af,g⟩ fr H k=AN (Z5 P op fr H) fun x=>k x H:=by
 simp only [Zs,h,G8,h2]
 all_goals (cases Z5 P op fr H<;>rfl)
theorem Rp {op:Op} (h:YA op=none) (h2:Z5 P op fr H=none):Zs P ⟨d,op,t,ps,af,g⟩ fr H k=Ao (Wl P op fr H) k:=by
 grind [Zs,G8,Ao]
@[go_sem ↓] theorem uG {x} :Zs P ⟨d,.move x,t,ps,af,g⟩ fr H k=k (ev fr x) H:=by rfl
@[go_sem ↓] theorem kV {x} :Zs P ⟨d,.assign x,t,ps,af,g⟩ fr H k=k (ev fr x) H:=by rfl
def vif (b:Bool) (x y:V):V:=if b then x else y
@[go_sem] theorem ZiR {x y} :vif true x y=x:=Zh rfl rfl
@[go_sem] theorem Zeq {x y} :vif false x y=y:=Zh rfl rfl
@[go_sem] theorem ZiQ {b x y} :vif b (.p (.bool x)) (.p (.bool y))= .p (.bool (if b then x else y)):=by cases b<;>rfl
@[go_sem] theorem Zf0 {b} :tW (.p (.bool b))=some b:=Zh rfl rfl
@[go_sem ↓] theorem uI {c x y} :Zs P ⟨d,.pick c x y,t,ps,af,g⟩ fr H k=AN ((tW (ev fr c)).map fun b=>vif b (ev fr x) (ev fr y)) (Zu (fun v=>k v H) ⟨⟩):=by
 rw [XB rfl rfl];simp only [Z5,XZ]
 cases tW (ev fr c)<;>rfl
@[go_sem ↓] theorem uF {u x} :Zs P ⟨d,.load u x,t,ps,af,g⟩ fr H k=AN (Qz P H u (ev fr x)) (Zu (fun v=>k v H) ⟨⟩):=by rw [XB rfl rfl];rfl
@[go_sem ↓] theorem T8 {x} :Zs P ⟨d,.nilCheck x,t,ps,af,g⟩ fr H k=AN (if Y3 H (ev fr x)||dM (ev fr x) then some (ev fr x) else none) (Zu (fun v=>k v H) ⟨⟩):=by rw [XB rfl rfl];rfl
@[go_sem ↓] theorem ZcI {op u x y u2} :Zs P ⟨d,.binOp op u x y u2,t,ps,af,g⟩ fr H k=AN ((X5 P op u (ev fr x) (ev fr y)).map .p) (Zu (fun v=>k v H) ⟨⟩):=by rw [XB rfl rfl];rfl
@[go_sem ↓] theorem Zf4 {op u x} :Zs P ⟨d,.unOp op u x,t,ps,af,g⟩ fr H k=AN ((aun op (ev fr x)).map .p) (Zu (fun v=>k v H) ⟨⟩):=by rw [XB rfl rfl];rfl
def eZ (x y:Option PV):Option PV:=match x with | some z=>some z | none=>y
@[go_sem] theorem Zbg {z y} :eZ (some z) y=some z:=Zh rfl rfl
@[go_sem] theorem Zbf {y} :eZ none y=y:=Zh rfl rfl
@[go_sem ↓] theorem uE {s u x} :Zs P ⟨d,.convert s u x,t,ps,af,g⟩ fr H k=AN ((eZ (B8 P H s u (ev fr x)) (Iw P s u (ev fr x))).map .p) (Zu (fun v=>k v H) ⟨⟩):=by
 rw [XB rfl rfl];simp only [Z5,XZ]
 cases B8 P H s u (ev fr x)<;>rfl
@[go_sem ↓] theorem T7 {f cs es} :Zs P ⟨d,.makeFunc f (List.toArray cs) (List.toArray es),t,ps,af,g⟩ fr H k=k (.fn f (cs.map (ev fr)) (es.map (ev fr))) H:=by rfl
@[go_sem ↓] theorem rI {u x lo hi mx} :Zs P ⟨d,.slice u x lo hi mx,t,ps,af,g⟩ fr H k=AN (WJ P H u fr (ev fr x) lo hi mx) (Zu (fun v=>k v H) ⟨⟩):=by rw [XB rfl rfl];rfl
@[go_sem ↓] theorem Tq {s x f} :Zs P ⟨d,.fieldAddr s x f,t,ps,af,g⟩ fr H k=AN (QZ P H s f (ev fr x)) (Zu (fun v=>k v H) ⟨⟩):=by rw [XB rfl rfl];rfl
@[go_sem ↓] theorem Ts {u x i} :Zs P ⟨d,.indexAddr u x i,t,ps,af,g⟩ fr H k=AN (Qc P H u (evx fr x) (ev fr i)) (Zu (fun v=>k v H) ⟨⟩):=by rw [XB rfl rfl];rfl
@[go_sem ↓] theorem rH {u x i} :Zs P ⟨d,.index u x i,t,ps,af,g⟩ fr H k=AN (Iy P u (ev fr x) (ev fr i)) (Zu (fun v=>k v H) ⟨⟩):=by rw [XB rfl rfl];rfl
def axt (x:V) (i:Nat):Option V:=match x with | .tup vs=>vs[i]? | _=>none
@[go_sem] theorem Zjm {vs i} :axt (.tup vs) i=vs[i]? :=Zh rfl rfl
@[go_sem ↓] theorem jH {x i} :Zs P ⟨d,.extract x i,t,ps,af,g⟩ fr H k=AN (axt (ev fr x) i) (Zu (fun v=>k v H) ⟨⟩):=by
 rw [XB rfl rfl]
 rfl
@[go_sem ↓] theorem rG {u l} :Zs P ⟨d,.build u (List.toArray l),t,ps,af,g⟩ fr H k=AN (DK P H u (l.map fun x=>(x.1,ev fr x.2))) (Zu (fun v=>k v H) ⟨⟩):=by rw [XB rfl rfl];rfl
@[go_sem ↓] theorem ZcK {x u} :Zs P ⟨d,.call ⟨.builtin .len,#[x],#[u]⟩,t,ps,af,g⟩ fr H k=AN ((TW P H u (ev fr x)).map .p) (Zu (fun v=>k v H) ⟨⟩):=by rw [XB rfl rfl];rfl
@[go_sem ↓] theorem ZcL {x y us} :Zs P ⟨d,.call ⟨.builtin .max,#[x,y],us⟩,t,ps,af,g⟩ fr H k=AN ((G5 false [ev fr x,ev fr y]).map .p) (Zu (fun v=>k v H) ⟨⟩):=by
 rw [XB rfl rfl];rfl
@[go_sem ↓] theorem rF {u} :Zs P ⟨d,.alloc u,t,ps,af,g⟩ fr H k=Ao ((Xj P u).map fun zs=>(.ptr H.length 0,H++ [.cells (zs.map .p)])) (Zu k ⟨⟩):=by rfl
@[go_sem ↓] theorem ZcJ {u x} :Zs P ⟨d,.box u x,t,ps,af,g⟩ fr H k=Ao ((vc H (ev fr x)).map fun cs=>(.ptr H.length 0,H++ [.cells cs])) (Zu k ⟨⟩):=by rfl
def uK (H:List Obj) (n:Option Nat) (a:V) (cs:Option (List V)):Option (List Obj):=n.bind fun n=>cs.bind fun cs=>Aw H n a cs
@[go_sem] theorem ZcN {n a cs} :uK H (some n) a (some cs)=Aw H n a cs:=Zh rfl rfl
@[go_sem ↓] theorem rJ {u x y} :Zs P ⟨d,.store u x y,t,ps,af,g⟩ fr H k=hst (uK H (YE P u) (ev fr x) (vc H (ev fr y))) (Zu (k .junk) ⟨⟩):=by
 rw [Rp rfl rfl];simp only [Wl,uK]
 cases YE P u<;>cases vc H (ev fr y)<;>simp [hst,Ao,Zu]
 grind
@[go_sem ↓] theorem Ro {u n l} :Zs P ⟨d,.buildSlice u n (List.toArray l),t,ps,af,g⟩ fr H k=Ao (Wl P (.buildSlice u n (List.toArray l)) fr H) (Zu k ⟨⟩):=by rfl
@[go_sem ↓] theorem jI {u} :Zs P ⟨d,.makeMap u none,t,ps,af,g⟩ fr H k=k (.mp H.length) (H++ [.map []]):=by rfl
@[go_sem ↓] theorem kW {u x y ok} :Zs P ⟨d,.lookup u x y ok,t,ps,af,g⟩ fr H k=Ao (AZ P H u (ev fr x) (ev fr y) ok) (Zu k ⟨⟩):=by rfl
@[go_sem ↓] theorem uH {u x y z} :Zs P ⟨d,.mapUpdate u x y z,t,ps,af,g⟩ fr H k=Ao (CU P H u (ev fr x) (ev fr y) (ev fr z)) (Zu k ⟨⟩):=by rfl
@[go_sem ↓] theorem Tt {u x y} :Zs P ⟨d,.makeSlice u x y,t,ps,af,g⟩ fr H k=Ao (Wl P (.makeSlice u x y) fr H) (Zu k ⟨⟩):=by rfl
@[go_sem ↓] theorem kU {x y u u2} :Zs P ⟨d,.call ⟨.builtin .append,#[x,y],#[u,u2]⟩,t,ps,af,g⟩ fr H k=Ao (WW P H u u2 (ev fr x) (ev fr y)) (Zu k ⟨⟩):=by rfl
@[go_sem ↓] theorem uD {f azs ts} :Zs P ⟨d,.call ⟨.value f,List.toArray azs,ts⟩,t,ps,af,g⟩ fr H k=Ak P (ev fr f) (azs.map (ev fr)) H (Zu k ⟨⟩):=Zh rfl rfl
@[go_sem ↓] theorem ZfJ {f fs cs azs} :Ak P (.fn (.func f) fs cs) azs H k=ACalls P f (fs++azs++cs) H k:=Zh rfl rfl
@[go_sem ↓] theorem Zcc {f azs} :Ak P (.p (.fn f)) azs H k=ACalls P f azs H k:=Zh rfl rfl
theorem Iu {f f' azs as'} (h:f=f') (h2:azs=as'):Ak P f azs H k=Ak P f' as' H k:=by rw [h,h2]
theorem GU {f azs as' H'} (h2:azs=as') (h3:H=H'):ACalls P f azs H k=ACalls P f as' H' k:=by rw [h2,h3]
theorem Iv {x x' A B} (h:x=x'):Vz x A B=Vz x' A B:=by rw [h]
theorem G1 {x x' b A B} (h:x=x'):Xq x b A B=Xq x' b A B:=by rw [h]
@[go_sem ↓, go_sem] theorem tD {A:Prop} {t B'} :Vz (.p (.bool true)) (Zu A t) B'=A:=by simp [Vz,Zu]
@[go_sem ↓, go_sem] theorem qT {B:Prop} {t B'} :Vz (.p (.bool false)) B' (Zu B t)=B:=by simp [Vz,Zu]
@[go_sem ↓, go_sem] theorem Zcm {A:Prop} {t B} :Xq (.p (.bool true)) true (Zu A t) B=A:=by simp [Xq,Zu]
@[go_sem ↓, go_sem] theorem Zcl {B:Prop} {t A} :Xq (.p (.bool true)) false A (Zu B t)=B:=by simp [Xq,Zu]
@[go_sem ↓, go_sem] theorem Zck {B:Prop} {t A} :Xq (.p (.bool false)) true A (Zu B t)=B:=by simp [Xq,Zu]
@[go_sem ↓, go_sem] theorem Zcj {A:Prop} {t B} :Xq (.p (.bool false)) false (Zu A t) B=A:=by simp [Xq,Zu]
@[go_sem ↓, go_sem] theorem qV {b} {B:Prop} {t A} :Xq (.tup []) b A (Zu B t)=B:=by rfl
theorem QY {c:Bool} {A B:Prop} {t t'} (h1:c=true->A) (h2:c=false->B):Vz (.p (.bool c)) (Zu A t) (Zu B t'):=⟨h1,h2⟩
theorem VA {c:Bool} {A B:Prop} {t t'} (h1:c=true->A) (h2:c=false->B):Xq (.p (.bool c)) true (Zu A t) (Zu B t'):=⟨h1,fun h=>h2 (by simpa using h)⟩
theorem Uj {c:Bool} {A B:Prop} {t t'} (h1:c=true->B) (h2:c=false->A):Xq (.p (.bool c)) false (Zu A t) (Zu B t'):=⟨h2,fun h=>h1 (by simpa using h)⟩
theorem Wp {P Q:Prop} (h:Q) (e:Q->P:=by intro h;simp (disch:=omega) only [go_sem,seval];exact h):P:=e h
class Dc (c:Bool) (p q:outParam Prop):Prop where
 t:c=true->p
 f:c=false->q
instance dcD {p : Prop} [Decidable p] : Dc (decide p) p (¬p) := ⟨KS, of_decide_eq_false⟩
instance (priority := low) dcB {c : Bool} : Dc c (c = true) (c = false) := ⟨id, id⟩
theorem cD {c:Bool} {A B p q:Prop} {t t'} [d:Dc c p q] (h1:p->A) (h2:q->B):Vz (.p (.bool c)) (Zu A t) (Zu B t'):=QY (fun h=>h1 (d.t h)) (fun h=>h2 (d.f h))
theorem gT {c:Bool} {A B p q:Prop} {t t'} [d:Dc c p q] (h1:p->A) (h2:q->B):Xq (.p (.bool c)) true (Zu A t) (Zu B t'):=VA (fun h=>h1 (d.t h)) (fun h=>h2 (d.f h))
theorem gF {c:Bool} {A B p q:Prop} {t t'} [d:Dc c p q] (h1:p->B) (h2:q->A):Xq (.p (.bool c)) false (Zu A t) (Zu B t'):=Uj (fun h=>h1 (d.t h)) (fun h=>h2 (d.f h))
@[go_sem] theorem Zka {p:Prop} [Decidable p]:(!decide p)=decide (¬p):=Zb
end ops
attribute [congr] M0 II Iu GU Iv G1
section vals
variable {P : Program} {H : List Obj} {k : IntKind} {t u : TypeId}
@[go_sem] theorem Zfy {a b} :X5 P .add t (.p (.int k a)) (.p (.int k b))=some (.int k (k.wrap (a+b))):=by simp [X5,Qm]
@[go_sem] theorem ZfI {a b} :X5 P .sub t (.p (.int k a)) (.p (.int k b))=some (.int k (k.wrap (a-b))):=by simp [X5,Qm]
@[go_sem] theorem TK {a b} :X5 P .mul t (.p (.int k a)) (.p (.int k b))=some (.int k (k.wrap (a*b))):=by simp [X5,Qm]
@[go_sem] theorem TM {a b} (h:b≠0):X5 P .quo t (.p (.int k a)) (.p (.int k b))=some (.int k (k.wrap (a.tdiv b))):=by simp [X5,Qm,h]
@[go_sem] theorem ZfG {a b} (h:b≠0):X5 P .rem t (.p (.int k a)) (.p (.int k b))=some (.int k (a.tmod b)):=by simp [X5,Qm,h]
@[go_sem] theorem TJ {a b} :X5 P .and t (.p (.int k a)) (.p (.int k b))=some (.int k (k.wrap ((BitVec.ofInt k.bits a&&&BitVec.ofInt k.bits b).toNat:Int))):=by simp [X5,Qm]
@[go_sem] theorem Oq {a b} :X5 P .or t (.p (.int k a)) (.p (.int k b))=some (.int k (k.wrap ((BitVec.ofInt k.bits a|||BitVec.ofInt k.bits b).toNat:Int))):=by simp [X5,Qm]
@[go_sem] theorem qR {a b} :X5 P .andNot t (.p (.int k a)) (.p (.int k b))=some (.int k (k.wrap ((BitVec.ofInt k.bits a&&& ~~~(BitVec.ofInt k.bits b)).toNat:Int))):=by simp [X5,Qm]
@[go_sem] theorem ZfA {a b} :X5 P .eql t (.p (.int k a)) (.p (.int k b))=some (.bool (decide (a=b))):=by simp [X5,Qm]
@[go_sem] theorem ZfF {a b} :X5 P .neq t (.p (.int k a)) (.p (.int k b))=some (.bool (decide (¬a=b))):=by simp [X5,Qm]
@[go_sem] theorem ZfE {a b} :X5 P .lss t (.p (.int k a)) (.p (.int k b))=some (.bool (decide (a<b))):=by simp [X5,Qm]
@[go_sem] theorem ZfD {a b} :X5 P .leq t (.p (.int k a)) (.p (.int k b))=some (.bool (decide (a<=b))):=by simp [X5,Qm]
@[go_sem] theorem ZfC {a b} :X5 P .gtr t (.p (.int k a)) (.p (.int k b))=some (.bool (decide (b<a))):=by simp [X5,Qm]
@[go_sem] theorem ZfB {a b} :X5 P .geq t (.p (.int k a)) (.p (.int k b))=some (.bool (decide (b<=a))):=by simp [X5,Qm]
@[go_sem] theorem TN {a b k'} (h:0<=b):X5 P .shl t (.p (.int k a)) (.p (.int k' b))=some (.int k (k.wrap (a*2^(min b.toNat k.bits)))):=by grind [X5,Qm]
@[go_sem] theorem TO {a b k'} (h:0<=b):X5 P .shr t (.p (.int k a)) (.p (.int k' b))=some (.int k (a.fdiv (2^(min b.toNat k.bits)))):=by grind [X5,Qm]
@[go_sem] theorem ZfH {op a b} :X5 P op t (.p (.str a)) (.p (.str b))=Ic op a b:=Zh rfl rfl
@[go_sem] theorem ZhO {a b} :Ic .eql a b=some (.bool (decide (a=b))):=Zh rfl rfl
@[go_sem] theorem ZhP {a b} :Ic .neq a b=some (.bool (decide (¬a=b))):=by simp [Ic]
@[go_sem] theorem hU {a b} (h:a.length+b.length<=9223372036854775807):Ic .add a b=some (.str (a++b)):=by simp [Ic,h]
def ZoJ (op:BinOp) (u:Option TypeDesc) (a b:Bool):Option PV:=match op,u with
  | .eql,some .bool=>some (.bool (a==b))
  | .neq,some .bool=>some (.bool (!(a==b)))
  | _,_=>none
end vals
attribute [irreducible] AN Ao hst bst
end Go.AM
namespace Go.AM
open Go.RowKit
section vals
variable {P : Program} {H : List Obj} {k : IntKind} {t u : TypeId}
def Zgv (g:Bool) (op:BinOp) (r:Option Bool):Option PV:=if g then none else match op with
 | .eql=>r.map .bool
 | .neq=>r.map fun r=> .bool (!r)
 | _=>none
@[go_sem] theorem Zfz {op a b} :X5 P op t (.p (.agg a)) (.p (.agg b))=Zgv (P.eqGuardType P.depth t) op (Vl P 9 t (.agg a) (.agg b)):=Zh rfl rfl
@[go_sem] theorem Zgw {b} :Zgv false .eql (some b)=some (.bool b):=Zh rfl rfl
def G0 (P:Program) (d:Nat) (t:TypeId) (D:Option TypeDesc) (x y:PV):Option Bool:=match D,x,y with
  | some .bool,.bool a,.bool b=>some (a==b)
  | some (.int _),.int k a,.int k' b=>if k=k' then some (decide (a=b)) else none
  | some .string,.str a,.str b=>some (decide (a=b))
  | some (.struct fs),.agg a,.agg b=>if P.stoodInHeld t then none else AX (Vl P d) P fs.toList a b
  | some (.array n e),.agg a,.agg b=>match YE P e with | some m=>Rb (Vl P d e) P e m n 0 a b | none=>none
  | _,_,_=>none
@[go_sem] theorem Zcg {d x y} :Vl P (d+1) t x y=G0 P d t (P.underlying t) x y:=Zh rfl rfl
@[go_sem] theorem Zcf {d a b} :G0 P d t (some .bool) (.bool a) (.bool b)=some (a==b):=Zh rfl rfl
@[go_sem] theorem ZfL {d k0 a b} :G0 P d t (some (.int k0)) (.int k a) (.int k b)=some (decide (a=b)):=by simp [G0]
theorem JO {d fs a b} (h:P.stoodInHeld t=false):G0 P d t (some (.struct fs)) (.agg a) (.agg b)=AX (Vl P d) P fs.toList a b:=by simp [G0,h]
def FC (x y:Option Bool):Option Bool:=x.bind fun p=>y.map fun q=>p&&q
@[go_sem] theorem Zdo {p q} :FC (some p) (some q)=some (p&&q):=Zh rfl rfl
def jL (f:PV->PV->Option Bool) (x y:Option PV):Option Bool:=x.bind fun x=>y.bind fun y=>f x y
@[go_sem] theorem Zgo {f x y} :jL f (some x) (some y)=f x y:=Zh rfl rfl
@[go_sem] theorem DM {f a b} :AX f P [] a b=some true:=Zh rfl rfl
@[go_sem] theorem B9 {f fi r a b} : AX f P (fi :: r) a b = if fi.name = "_" then AX f P r a b else FC (jL (f fi.type) (apart P fi.type a fi.offset) (apart P fi.type b fi.offset)) (AX f P r a b) := by
 simp only [AX]
 split
 ·rfl
 ·cases apart P fi.type a fi.offset<;>cases apart P fi.type b fi.offset<;>simp [jL,FC]
  rename_i x y
  cases f fi.type x y<;>cases AX f P r a b<;>rfl
def ZfX (g:Option Bool) (s:Option Nat) (cs:List PV) (off:Nat):Option PV:=match g,s with
 | some true,some n=>if off+n<=cs.length then some (.agg ((cs.drop off).take n)) else none
 | some false,_=>cs[off]?
 | _,_=>none
@[go_sem] theorem ZfW {cs off} :apart P t cs off=ZfX (XG P t) (YE P t) cs off:=Zh rfl rfl
@[go_sem] theorem ZfY {s cs off} :ZfX (some false) s cs off=cs[off]? :=Zh rfl rfl
def MX (g:Option Bool) (s:Option Nat) (H:List Obj) (x:V):Option V:=match g,s with
 | some true,some n=>(VM H x n).map mkA
 | some false,_=>match VM H x 1 with
  | some (c::_)=>some c
  | _=>none
 | _,_=>none
def hdO (x:Option (List V)):Option V:=match x with | some (c::_)=>some c | _=>none
@[go_sem] theorem Zgz {c l} :hdO (some (c::l))=some c:=Zh rfl rfl
@[go_sem] theorem ZfQ {x} :Qz P H t x=MX (XG P t) (YE P t) H x:=Zh rfl rfl
@[go_sem] theorem tN {s x} :MX (some false) s H x=hdO (VM H x 1):=by rfl
@[go_sem] theorem tM {n x} :MX (some true) (some n) H x=(VM H x n).map mkA:=Zh rfl rfl
@[go_sem] theorem Zce {x j n} :VM H (.lp x j) n=if j+n<=x.cells.length then some (((x.cells.drop j).take n).map .p) else none:=Zh rfl rfl
def fW (ob:Obj) (off n:Nat):Option (List V):=match ob with | .cells cs=>if off+n<=cs.length then some ((cs.drop off).take n) else none | _=>none
@[go_sem] theorem tC {o off n} :VM H (.ptr o off) n=fW (oat H o) off n:=Zh rfl rfl
@[go_sem] theorem nT {cs off n} :fW (.cells cs) off n=if off+n<=cs.length then some ((cs.drop off).take n) else none:=Zh rfl rfl
def bV (ob:Obj) (i j tot n:Nat):Option (List V):=match ob with
 | .elems _ xs=>if xs.length=tot/\i<xs.length/\j+n<=(Qw xs i).cells.length then some ((((Qw xs i).cells.drop j).take n).map .p) else none
 | _=>none
@[go_sem] theorem Zcd {o i j tot n} :VM H (.ep o i j tot) n=bV (oat H o) i j tot n:=Zh rfl rfl
@[go_sem] theorem lY {S xs i j tot n} :bV (.elems S xs) i j tot n=if xs.length=tot/\i<xs.length/\j+n<=(Qw xs i).cells.length then some ((((Qw xs i).cells.drop j).take n).map .p) else none:=Zh rfl rfl
@[go_sem] theorem ZcV {cs} :(PV.agg cs).cells=cs:=Zh rfl rfl
@[go_sem] theorem ZcX {n} :(PV.int k n).cells= [.int k n]:=Zh rfl rfl
@[go_sem] theorem uY {b} :(PV.bool b).cells= [.bool b]:=Zh rfl rfl
@[go_sem] theorem ZcY {s} :(PV.str s).cells= [.str s]:=Zh rfl rfl
@[go_sem] theorem uZ {c xs} :(PV.list c xs).cells= [.list c xs]:=Zh rfl rfl
@[go_sem] theorem Zkc {n} :(PV.int k n).one=true:=Zh rfl rfl
@[go_sem] theorem Zhz {b} :(PV.bool b).one=true:=Zh rfl rfl
@[go_sem] theorem Zkd {s} :(PV.str s).one=true:=Zh rfl rfl
@[go_sem] theorem ZhA {c xs} :(PV.list c xs).one=true:=Zh rfl rfl
@[go_sem] theorem Zl0 {cs} :mkA cs=match Qd cs with | some ps=> .p (.agg ps) | none=> .agg cs:=Zh rfl rfl
@[go_sem] theorem ZfP : Qd []=some []:=Zh rfl rfl
@[go_sem] theorem Zcs {x r} :Qd (.p x::r)=(Qd r).map (x:: ·):=by rfl
def Dh (n:Option Nat) (a:Bool) (x:V):Option V:=match n with | some n=>if a then some (A0 n x) else none | none=>none
@[go_sem] theorem Zch {s f x} :QZ P H s f x=Dh (ZU P s f) (Y3 H x) x:=Zh rfl rfl
@[go_sem] theorem jU {n x} :Dh (some n) true x=some (A0 n x):=Zh rfl rfl
@[go_sem] theorem ZfU {n x j} :A0 n (.lp x j)= .lp x (j+n):=Zh rfl rfl
@[go_sem] theorem Zcw {n o off} :A0 n (.ptr o off)= .ptr o (off+n):=Zh rfl rfl
@[go_sem] theorem ZfT {n o i j tot} :A0 n (.ep o i j tot)= .ep o i (j+n) tot:=Zh rfl rfl
def O8 (ob:Obj):Bool:=match ob with | .cells _=>true | _=>false
@[go_sem] theorem jN {cs} :O8 (.cells cs)=true:=Zh rfl rfl
def O9 (ob:Obj) (tot:Nat):Bool:=match ob with | .elems _ xs=>decide (xs.length=tot) | _=>false
@[go_sem] theorem jO {S xs tot} :O9 (.elems S xs) tot=decide (xs.length=tot):=Zh rfl rfl
def Pc (ob:Obj) (tot:Nat):Bool:=match ob with | .elems _ xs=>decide (xs.length=tot) | .cells _=>true | _=>false
@[go_sem] theorem rY {S xs tot} :Pc (.elems S xs) tot=decide (xs.length=tot):=Zh rfl rfl
@[go_sem] theorem rX {cs tot} :Pc (.cells cs) tot=true:=Zh rfl rfl
@[go_sem] theorem ZfO {x j} :Y3 H (.lp x j)=true:=Zh rfl rfl
@[go_sem] theorem tK {o off} :Y3 H (.ptr o off)=O8 (oat H o):=Zh rfl rfl
@[go_sem] theorem ZfN {o i j tot} :Y3 H (.ep o i j tot)=O9 (oat H o) tot:=Zh rfl rfl
def VY (e:Option (Option Nat×Nat)) (H:List Obj) (x i:V):Option V:=match e,i with
 | some (none,S),.p (.int _ n)=>match x with
  | .p (.list _ xs)=>if 0<=n/\n<xs.length then (if (Qw xs n.toNat).cells.length=S then some (.lp (Qw xs n.toNat) 0) else none) else none
  | .sl o off len tot=>match oat H o with
   | .elems S' xs=>if xs.length=tot/\S'=S then (if 0<=n/\n<len then some (.ep o (off+n.toNat) 0 tot) else none) else none
   | .cells _=>if S=1/\off=0/\len=tot/\0<=n/\n<len then some (.ptr o n.toNat) else none
   | _=>none
  | _=>none
 | some (some k,S),.p (.int _ n)=>if 0<=n/\n<k then (if Y3 H x then some (A0 (n.toNat*S) x) else none) else none
 | _,_=>none
@[go_sem] theorem Zco {x i} :Qc P H t x i=VY (YH P t) H x i:=Zh rfl rfl
theorem G2 {S c xs n} (h0:0<=n) (h1:n<(List.length xs:Int)):VY (some (none,S)) H (.p (.list c xs)) (.p (.int k n))=if (Qw xs n.toNat).cells.length=S then some (.lp (Qw xs n.toNat) 0) else none:=by
 simp_all [VY]
def nth {α:Type} [Inhabited α] (l:List α) (i:Nat):α:=l.getD i default
theorem Wn {α:Type} [Inhabited α] {f:α->PV} {l:List α} {i:Nat} (h:i<l.length):Qw (l.map f) i=f (nth l i):=by
 simp [Qw,nth,h]
theorem Ze {α:Type} [Inhabited α] {l:List α} {i:Nat} (h:i<l.length):nth l i=l[i]:=by simp [nth,h]
@[go_sem] theorem qX {α:Type} [Inhabited α] {f:α->PV} {l:List α} {S c n} (h0:0<=n) (h1:n<(l.length:Int)) :
  VY (some (none,S)) H (.p (.list c (l.map f))) (.p (.int k n))=if (f (nth l n.toNat)).cells.length=S then some (.lp (f (nth l n.toNat)) 0) else none:=by
 grind [G2,Wn]
def E4 (ob:Obj) (S o off len tot:Nat) (n:Int):Option V:=match ob with
 | .elems S' xs=>if xs.length=tot/\S'=S then (if 0<=n/\n<len then some (.ep o (off+n.toNat) 0 tot) else none) else none
 | .cells _=>if S=1/\off=0/\len=tot/\0<=n/\n<len then some (.ptr o n.toNat) else none
 | _=>none
@[go_sem] theorem tG {S o off len tot n} :VY (some (none,S)) H (.sl o off len tot) (.p (.int k n))=E4 (oat H o) S o off len tot n:=Zh rfl rfl
@[go_sem] theorem Zdy {S xs o off} {len tot:Nat} {n:Int} (h0:0<=n) (h1:n<(len:Int)) (ht:xs.length=tot):E4 (.elems S xs) S o off len tot n=some (.ep o (off+n.toNat) 0 tot):=by
 grind [E4]
@[go_sem] theorem oO {cs o} {len:Nat} {n:Int} (h0:0<=n) (h1:n<(len:Int)):E4 (.cells cs) 1 o 0 len len n=some (.ptr o n.toNat):=by
 grind [E4]
@[go_sem] theorem qW {n} {m S:Nat} {x} (h0:0<=n) (h1:n<(m:Int)):VY (some (some m,S)) H x (.p (.int k n))=Dh (some (n.toNat*S)) (Y3 H x) x:=by
 simp_all [VY,Dh]
def Ot (H:List Obj) (D:Option TypeDesc) (x:V):Option PV:=match D,x with
 | some (.slice _),.p (.list _ xs)=>some (.int .i64 xs.length)
 | some (.slice _),.sl o _ len tot=>match oat H o with
  | .elems _ xs=>if xs.length=tot then some (.int .i64 len) else none
  | _=>none
 | some .string,.p (.str s)=>some (.int .i64 s.length)
 | some (.array n _),_=>some (.int .i64 n)
 | _,_=>none
@[go_sem] theorem Zjd {x} :TW P H t x=Ot H (P.underlying t) x:=Zh rfl rfl
@[go_sem] theorem tH {e c xs} :Ot H (some (.slice e)) (.p (.list c xs))=some (.int .i64 (List.length xs)):=Zh rfl rfl
def ZhT (ob:Obj) (len tot:Nat):Option PV:=match ob with | .elems _ xs=>if xs.length=tot then some (.int .i64 len) else none | _=>none
@[go_sem] theorem ZfM {e o off len tot} :Ot H (some (.slice e)) (.sl o off len tot)=ZhT (oat H o) len tot:=Zh rfl rfl
@[go_sem] theorem ZbF {S xs len tot} :ZhT (.elems S xs) len tot=if xs.length=tot then some (.int .i64 len) else none:=Zh rfl rfl
@[go_sem] theorem Zcr {s} :Ot H (some .string) (.p (.str s))=some (.int .i64 (List.length s)):=Zh rfl rfl
@[go_sem] theorem Zjl {b} :aun .not (.p (.bool b))=some (.bool (!b)):=Zh rfl rfl
@[go_sem] theorem Zjk {n} :aun .neg (.p (.int k n))=some (.int k (k.wrap (0-n))):=Zh rfl rfl
def TQ (D E:Option TypeDesc) (x:V):Option PV:=match D,E,x with
 | some _,some (.int k),.p (.int _ n)=>some (.int k (k.wrap n))
 | some (.int _),some .string,.p (.int _ n)=>if 0<=n/\n<128 then some (.str [UInt8.ofNat n.toNat]) else none
 | some .string,some .string,.p (.str b)=>some (.str b)
 | _,_,_=>none
@[go_sem] theorem ZfK {s x} :Iw P s t x=TQ (P.underlying s) (P.underlying t) x:=Zh rfl rfl
@[go_sem] theorem tE {D k' n} :TQ (some D) (some (.int k)) (.p (.int k' n))=some (.int k (k.wrap n)):=by rfl
def GY (E:Option TypeDesc) (H:List Obj) (x:V):Option PV:=match E,x with
  | some (.int .u8),.p (.list _ xs)=>(YI xs).map .str
  | some (.int .u8),.sl o off len tot=>match oat H o with
   | .elems _ xs=>if xs.length=tot/\off+len<=tot then (YI ((xs.take (off+len)).drop off)).map .str else none
   | _=>none
  | _,_=>none
def GX (P:Program) (H:List Obj) (D E:Option TypeDesc) (x:V):Option PV:=match D,E with
 | some (.slice e),some .string=>GY (P.underlying e) H x
 | _,_=>none
@[go_sem] theorem Zcb {s x} :B8 P H s t x=GX P H (P.underlying s) (P.underlying t) x:=Zh rfl rfl
@[go_sem] theorem qS {E x} :GX P H (some (.int k)) E x=none:=Zh rfl rfl
@[go_sem] theorem jD {e x} :GX P H (some (.slice e)) (some .string) x=GY (P.underlying e) H x:=Zh rfl rfl
def iA (ob:Obj) (off len tot:Nat):Option PV:=match ob with | .elems _ xs=>if xs.length=tot/\off+len<=tot then (YI ((xs.take (off+len)).drop off)).map .str else none | _=>none
@[go_sem] theorem tB {o off len tot} :GY (some (.int .u8)) H (.sl o off len tot)=iA (oat H o) off len tot:=Zh rfl rfl
@[go_sem] theorem oK {S xs off len tot} :iA (.elems S xs) off len tot=if xs.length=tot/\off+len<=tot then (YI ((xs.take (off+len)).drop off)).map .str else none:=Zh rfl rfl
@[go_sem] theorem rO : YI []=some []:=Zh rfl rfl
@[go_sem] theorem lB {n r} :YI (.int .u8 n::r)=(YI r).map (UInt8.ofNat n.toNat:: ·):=by rfl
@[go_sem] theorem ZkD {a b:Int} (h:0<=a):a.tdiv b=a / b:=Int.tdiv_eq_ediv_of_nonneg h
@[go_sem] theorem ZkR {a b:Int} (h:0<=a):a.tmod b=a%b:=Int.tmod_eq_emod_of_nonneg h
@[go_sem] theorem Znw {cs} :vc H (.p (.agg cs))=if cs.all (·.one)=true then some (cs.map .p) else none:=by rfl
@[go_sem] theorem ZkS {cs} :vc H (.agg cs)=if cs.all (V.one H)=true then some cs else none:=by rfl
@[go_sem] theorem Znx {n} :vc H (.p (.int k n))=some [.p (.int k n)]:=Zh rfl rfl
@[go_sem] theorem ZkT {n} :vc H (.p (.bool n))=some [.p (.bool n)]:=Zh rfl rfl
@[go_sem] theorem Zny {n} :vc H (.p (.str n))=some [.p (.str n)]:=Zh rfl rfl
@[go_sem] theorem ZkU {c xs} :vc H (.p (.list c xs))=some [.p (.list c xs)]:=Zh rfl rfl
@[go_sem] theorem ZoI {o off len tot} :vc H (.sl o off len tot)=if Pc (oat H o) tot=true then some [.sl o off len tot] else none:=Zh rfl rfl
@[go_sem] theorem Znz {x} :V.one H (.p x)=x.one:=Zh rfl rfl
@[go_sem] theorem ZkX {o off len tot} :V.one H (.sl o off len tot)=Pc (oat H o) tot:=Zh rfl rfl
@[go_sem] theorem ZkW {o} :V.one H (.mp o)=Pa (oat H o):=Zh rfl rfl
@[go_sem] theorem ZoH {o} :vc H (.mp o)=if Pa (oat H o)=true then some [.mp o] else none:=Zh rfl rfl
@[go_sem] theorem Zdd {es} :Pa (.map es)=true:=Zh rfl rfl
@[go_sem] theorem Zkj {α:Type} {n} {cs:List α} :JM ([]:List α) n cs= []:=by rfl
@[go_sem] theorem ZhV {α:Type} {x c:α} {l cs} :JM (x::l) 0 (c::cs)=c::JM l 0 cs:=by simp [JM]
@[go_sem] theorem Zdz {α:Type} {x:α} {l} :JM (x::l) 0 []=x::l:=by simp [JM]
@[go_sem] theorem ZhU {α:Type} {x:α} {l cs n} :JM (x::l) (n+1) cs=x::JM l n cs:=by simp [JM]
def gI (H:List Obj) (o:Nat) (ob:Obj) (off n:Nat) (cs:List V):Option (List Obj):=match ob with
 | .cells old=>if off+n<=old.length then some (EK H o (.cells (JM old off cs))) else none
 | _=>none
@[go_sem] theorem uJ {n o off cs} :Aw H n (.ptr o off) cs=if cs.length=n then gI H o (oat H o) off n cs else none:=Zh rfl rfl
@[go_sem] theorem nY {o old off n cs} :gI H o (.cells old) off n cs=if off+n<=old.length then some (EK H o (.cells (JM old off cs))) else none:=Zh rfl rfl
def Nl (H:List Obj) (o:Nat) (ob:Obj) (i j tot n:Nat) (ps:Option (List PV)):Option (List Obj):=match ob,ps with
 | .elems S xs,some ps=>if xs.length=tot/\i<xs.length/\j+n<=(Qw xs i).cells.length/\ps.all (·.one)=true/\(Qw xs i).cells.all (·.one)=true then
   some (EK H o (.elems S (xs.set i (jP (Qw xs i) (JM (Qw xs i).cells j ps))))) else none
 | _,_=>none
@[go_sem] theorem ZcM {n o i j tot cs} :Aw H n (.ep o i j tot) cs=if cs.length=n then Nl H o (oat H o) i j tot n (Qd cs) else none:=Zh rfl rfl
@[go_sem] theorem vO {α:Type} [Inhabited α] {f:α->PV} {l:List α} {o S i j tot n ps} (ht:l.length=tot) (hi:i<l.length):Nl H o (.elems S (l.map f)) i j tot n (some ps) =
  if j+n<=(f (nth l i)).cells.length/\ps.all (·.one)=true/\(f (nth l i)).cells.all (·.one)=true then
   some (EK H o (.elems S ((l.map f).set i (jP (f (nth l i)) (JM (f (nth l i)).cells j ps))))) else none:=by
 simp_all [Nl,Wn]
@[go_sem] theorem Zj6 {a cs} :jP (.agg a) cs= .agg cs:=Zh rfl rfl
@[go_sem] theorem Zj7 {n c l} :jP (.int k n) (c::l)=c:=Zh rfl rfl
@[go_sem] theorem Zhm {n c l} :jP (.bool n) (c::l)=c:=Zh rfl rfl
@[go_sem] theorem Zca {l} :DK P H t l=match Xj P t,DF P t with
 | some zs,some pl=>(JP H pl (zs.map .p) l).map mkA
 | _,_=>none:=Zh rfl rfl
@[go_sem] theorem Zci {pl cs} :JP H pl cs []=some cs:=by simp [JP]
def TS (H:List Obj) (pl:Nat->Option (Nat×Nat)) (cs:List V) (r:List (Nat×V)) (q:Option (Nat×Nat)) (vs:Option (List V)):Option (List V):=match q,vs with
 | some (off,sz),some vs=>if vs.length=sz/\off+sz<=cs.length then JP H pl (JM cs off vs) r else none
 | _,_=>none
@[go_sem] theorem tF {pl cs i v r} :JP H pl cs ((i,v)::r)=TS H pl cs r (pl i) (vc H v):=Zh rfl rfl
@[go_sem] theorem qU {pl cs off sz vs r} :TS H pl cs r (some (off,sz)) (some vs)=if vs.length=sz/\off+sz<=cs.length then JP H pl (JM cs off vs) r else none:=Zh rfl rfl
@[go_sem] theorem Zl8 {l i} :DB l i=l[i]? :=Zh rfl rfl
@[go_sem] theorem Zl7 {n i} :plA n i=some (i*n,n):=Zh rfl rfl
end vals
end Go.AM
namespace Go.AM
open Go.RowKit
section
variable {P : Program} {H : List Obj} {k : IntKind} {t u : TypeId} {fr : List V}
def TX (S:Option Nat) (H:List Obj) (n:Nat) (l:List (Nat×V)):Option (V×List Obj):=match S with
 | some S=>if n=l.length/\n*S<=16777216/\0<S then (QI H S 0 l).map fun xs=>(.sl H.length 0 n n,H++ [.elems S xs]) else none
 | none=>none
@[go_sem] theorem ZfS {n l} :Wl P (.buildSlice t n (List.toArray l)) fr H=TX (UU P t) H n (l.map fun x=>(x.1,ev fr x.2)):=by
 grind [Wl,UU,TX,MV]
@[go_sem] theorem tI {S n l} :TX (some S) H n l=if n=l.length/\n*S<=16777216/\0<S then (QI H S 0 l).map fun xs=>(.sl H.length 0 n n,H++ [.elems S xs]) else none:=Zh rfl rfl
@[go_sem] theorem Zhh {S n} :QI H S n []=some []:=by simp [QI]
@[go_sem] theorem Zdj {S n i x r} :QI H S n ((i,.p x)::r)=if i=n then if x.cells.length=S/\x.cells.all (·.one)=true then (QI H S (n+1) r).map (x:: ·) else none else none:=by rfl
@[go_sem] theorem ZjW {S n i f r} :QI H S n ((i,.fn (.func f) [] [])::r)=if i=n then if 1=S then (QI H S (n+1) r).map (.fn f:: ·) else none else none:=by simp [QI,pvo,PV.cells,PV.one]
def Q1 (P:Program) (t:TypeId):Option (Nat×Nat):=match P.underlying t with
 | some (.slice e)=>match YE P e,zval P e,(P.info? e).map (·.bytes) with
  | some S,some z,some by'=>if 0<S/\z.cells.length=S/\z.cells.all (·.one)=true/\by'≠0 then some (S,by') else none
  | _,_,_=>none
 | _=>none
theorem DU {S by'} (h:Q1 P t=some (S,by')): ∃e z,P.underlying t=some (.slice e)/\YE P e=some S/\zval P e=some z/\(P.info? e).map (·.bytes)=some by'/\0<S/\z.cells.length=S/\z.cells.all (·.one)=true/\by'≠0:=by
 unfold Q1 at h
 grind
def YO (D:Option TypeDesc) (H:List Obj) (y:V):Option (List PV):=match D,y with
 | some (.slice _),.p (.list _ ys)=>some ys
 | some (.slice _),.sl o off len tot=>match oat H o with
  | .elems _ xs=>if xs.length=tot/\off+len<=tot then some ((xs.take (off+len)).drop off) else none
  | _=>none
 | some .string,.p (.str s)=>some (s.map fun b=> .int .u8 b.toNat)
 | _,_=>none
def iI (ob:Obj) (off len tot:Nat):Option (List PV):=match ob with | .elems _ xs=>if xs.length=tot/\off+len<=tot then some ((xs.take (off+len)).drop off) else none | _=>none
@[go_sem] theorem tX {e c ys} :YO (some (.slice e)) H (.p (.list c ys))=some ys:=Zh rfl rfl
@[go_sem] theorem Zf3 {e o off len tot} :YO (some (.slice e)) H (.sl o off len tot)=iI (oat H o) off len tot:=Zh rfl rfl
theorem Mo {S xs n} (h:List.length xs=n):iI (.elems S xs) 0 n n=some xs:=by grind [iI]
def M1 (H:List Obj) (F:Option (Nat×Nat)) (ys:Option (List PV)):Option (V×List Obj):=match F,ys with
 | some (S,by'),some ys=>if Ap S ys=true/\ys.length*by'<=140737488355328/\ys.length<=140737488355328 then some (.sl H.length 0 ys.length ys.length,H++ [.elems S ys]) else none
 | _,_=>none
def Um (H:List Obj) (F:Option (Nat×Nat)) (ob:Obj) (o n:Nat) (ys:Option (List PV)):Option (V×List Obj):=match F,ob,ys with
 | some (S,by'),.elems S' xs,some ys=>if S'=S/\xs.length=n/\Ap S ys=true/\(n+ys.length)*by'<=140737488355328/\n+ys.length<=140737488355328 then
   some (.sl o 0 (n+ys.length) (n+ys.length),EK H o (.elems S (xs++ys))) else none
 | _,_,_=>none
theorem GV {z x y ys e S by'} (h1:P.underlying t=some (.slice e)) (h2:YE P e=some S) (h3:zval P e=some z) (h4:(P.info? e).map (·.bytes)=some by') (h5:Db P H u y=some ys) (h6:0<S/\z.cells.length=S/\z.cells.all (·.one)=true/\by'≠0) :
  WW P H t u x y=if Ap S ys=true then (match x with
    | .p (.list cl xs)=>if cl=true/\Ap S xs=true/\(xs= []\/0<ys.length)/\(xs.length+ys.length)*by'<=140737488355328/\xs.length+ys.length<=140737488355328 then
      some (.sl H.length 0 (xs.length+ys.length) (xs.length+ys.length),H++ [.elems S (xs++ys)]) else none
    | .sl o off len tot=>match oat H o with
     | .elems S' xs=>if S'=S/\off=0/\len=tot/\xs.length=tot/\(tot+ys.length)*by'<=140737488355328/\tot+ys.length<=140737488355328 then
       some (.sl o 0 (tot+ys.length) (tot+ys.length),EK H o (.elems S (xs++ys))) else none
     | _=>none
    | _=>none) else none:=by
 simp only [WW,h1,h2,h3,h4,h5]
 grind
theorem DJ {y F} (hF:Q1 P t=some F):WW P H t u (.p (.list true [])) y=M1 H (some F) (YO (P.underlying u) H y):=by
 obtain ⟨S,by'⟩:=F;obtain ⟨e,z,h1,h2,h3,h4,h6⟩:=DU hF;have e1:YO (P.underlying u) H y=Db P H u y:=Zh rfl rfl;rw [e1]
 cases h5:Db P H u y with
 | none=>grind [WW,M1]
 | some ys =>
  grind [GV,M1,Ap]
theorem Yy {y F o n} (hF:Q1 P t=some F):WW P H t u (.sl o 0 n n) y=Um H (some F) (oat H o) o n (YO (P.underlying u) H y):=by
 obtain ⟨S,by'⟩:=F;obtain ⟨e,z,h1,h2,h3,h4,h6⟩:=DU hF;have e1:YO (P.underlying u) H y=Db P H u y:=Zh rfl rfl;rw [e1]
 cases h5:Db P H u y with
 | none =>
  grind [WW,Um]
 | some ys =>
  rw [GV h1 h2 h3 h4 h5 h6];simp only [Um]
  grind
@[go_sem] theorem ZcB {S b ys} :M1 H (some (S,b)) (some ys)=if Ap S ys=true/\ys.length*b<=140737488355328/\ys.length<=140737488355328 then some (.sl H.length 0 ys.length ys.length,H++ [.elems S ys]) else none:=Zh rfl rfl
theorem FS {S b xs ys o n} (hn:xs.length=n) (hb:(n+ys.length)*b<=140737488355328) (hb2:n+ys.length<=140737488355328):Um H (some (S,b)) (.elems S xs) o n (some ys)=if Ap S ys=true then some (.sl o 0 (n+ys.length) (n+ys.length),EK H o (.elems S (xs++ys))) else none:=by
 simp_all [Um]
@[go_sem] theorem ZhX {α:Type} {S} {f:α->PV} {l:List α} :iI (.elems S (l.map f)) 0 l.length l.length=some (l.map f):=Mo Zb
@[go_sem] theorem ZhY {S x} :iI (.elems S [x]) 0 1 1=some [x]:=Mo Zb
@[go_sem] theorem ZcD {α:Type} {S b o x} {f:α->PV} {l:List α} (hb:(l.length+1)*b<=140737488355328) (hb2:l.length+1<=140737488355328):Um H (some (S,b)) (.elems S (l.map f)) o l.length (some [x])=if Ap S [x]=true then some (.sl o 0 (l.length+1) (l.length+1),EK H o (.elems S (l.map f++ [x]))) else none :=
 FS Zb Za Za
@[go_sem] theorem ZcE {α β:Type} {S b o} {f:α->PV} {g:β->PV} {l:List α} {m:List β} (hb:(l.length+m.length)*b<=140737488355328) (hb2:l.length+m.length<=140737488355328):Um H (some (S,b)) (.elems S (l.map f)) o l.length (some (m.map g))=if Ap S (m.map g)=true then some (.sl o 0 (l.length+m.length) (l.length+m.length),EK H o (.elems S (l.map f++m.map g))) else none:=by
 grind [FS]
@[go_sem] theorem Zkb {S} :Ap S []=true:=Zh rfl rfl
@[go_sem] theorem Zhw {S x l} :Ap S (x::l)=((x.cells.length==S)&&x.cells.all (·.one)&&Ap S l):=by rfl
theorem Dz {α:Type} {S} {f:α->PV} {l:List α} (h: ∀x,Zbh S (f x)=true):Ap S (l.map f)=true:=by grind [Ap]
def LA (P:Program) (t:TypeId):Option (Nat×Nat×PV):=match P.underlying t with
  | some (.slice e)=>match YE P e,zval P e,(P.info? e).map (·.bytes) with
   | some S,some z,some by'=>if z.cells.all (·.one)=true/\z.cells.length=S/\0<S then some (S,by',z) else none
   | _,_,_=>none
  | _=>none
end
def WC : Nat->List Nat->List V->List V
 | _,_,[]=> []
 | i,[],_::l=> .junk::WC (i+1) [] l
 | i,k::ks,x::l=>if i=k then x::WC (i+1) ks l else .junk::WC (i+1) (k::ks) l
def Aj : List (Nat×V)->List V->List V
 | [],fr=>fr
 | (i,v)::r,fr=>Aj r (pt fr i v)
@[go_sem] theorem Zde {i ks} :WC i ks []= []:=by rfl
@[go_sem] theorem Za3 {i x l} :WC i [] (x::l)= .junk::WC (i+1) [] l:=by simp [WC]
@[go_sem] theorem Za2 {i k ks x l} :WC i (k::ks) (x::l)=if i=k then x::WC (i+1) ks l else .junk::WC (i+1) (k::ks) l:=by simp [WC]
@[go_sem] theorem ZnJ : ((0:Nat):Int)=0:=Zh rfl rfl
@[go_sem] theorem ZnK {n:Nat} :((n+1:Nat):Int)=(n:Int)+1:=Zh rfl rfl
@[go_sem] theorem ZmI {n:Nat} :((n:Int)).toNat=n:=Zh rfl rfl
@[go_sem] theorem ZhQ {fr} :Aj [] fr=fr:=by simp [Aj]
@[go_sem] theorem Zdx {i v r fr} :Aj ((i,v)::r) fr=Aj r (pt fr i v):=by simp [Aj]
@[go_sem] theorem Zji {p q:Prop} [Decidable p] [Decidable q]:(decide p&&decide q)=decide (p/\q):=Zb
@[go_sem] theorem Zbm {p q:Prop} [Decidable p] [Decidable q]:(decide p||decide q)=decide (p\/q):=Zb
theorem Zk {P c fr H Q} {I:Type} (ks:List Nat) (sets:I->List (Nat×V)) (hs:I->List Obj) (R:I->Prop) (μ:I->Nat) (i0:I) (hR:R i0) (h0:Weak H.length fr H (Aj (sets i0) (WC 0 ks fr)) (hs i0))
  (round: ∀i,R i->Q5 [] P c (Aj (sets i) (WC 0 ks fr)) (hs i) (QS (fun fr' H'=> ∃i',R i'/\μ i'<μ i/\Weak H.length fr' H' (Aj (sets i') (WC 0 ks fr)) (hs i')) Q)):AWP P (.loop c) fr H Q :=
 IL R (fun i=>Aj (sets i) (WC 0 ks fr)) hs μ i0 hR h0 fun i hi=>Zg [] _ _ _ _ (round i hi)
theorem Xc {P c fr H Q} (cuts:List Nat) {I:Type} (ks:List Nat) (sets:I->List (Nat×V)) (hs:I->List Obj) (R:I->Prop) (μ:I->Nat) (i0:I) (hR:R i0) (h0:Weak H.length fr H (Aj (sets i0) (WC 0 ks fr)) (hs i0))
  (round: ∀i,R i->Q5 cuts P c (Aj (sets i) (WC 0 ks fr)) (hs i) (QS (fun fr' H'=> ∃i',R i'/\μ i'<μ i/\Weak H.length fr' H' (Aj (sets i') (WC 0 ks fr)) (hs i')) Q)):AWP P (.loop c) fr H Q :=
 IL R (fun i=>Aj (sets i) (WC 0 ks fr)) hs μ i0 hR h0 fun i hi=>Zg cuts _ _ _ _ (round i hi)
theorem ZI {P x y fr H Q} {I:Type} (ks:List Nat) (sets:I->List (Nat×V)) (hs:I->List Obj) (R:I->Prop)
  (h:Q5 [] P x fr H (QS (fun fr' H'=> ∃i,R i/\Weak H.length fr' H' (Aj (sets i) (WC 0 ks fr)) (hs i)) Q)) (k: ∀i,R i->AWP P y (Aj (sets i) (WC 0 ks fr)) (hs i) Q):AWP P (.seq x y) fr H Q :=
 fun F ι a w hr hf=>by
 refine wp_seq (wp_mono (Zg [] _ _ _ _ h F ι a w hr hf) ?_);rintro e a' w' ⟨fr',H',ι',q,g,f⟩
 cases e with
 | normal =>
  obtain ⟨i,hi,hw⟩:=q;obtain ⟨ι2,r2,f2,g2⟩:=hw F ι' a' w' g.rel f;refine wp_mono (k i hi F ι2 a' w' r2 f2) ?_;rintro e2 a2 w2 ⟨fr2,H2,ι3,q2,g3,f3⟩;exact ⟨fr2,H2,ι3,q2,(g2 H ι w (Xg _) g).trans g3,f3⟩
 | exit id=>exact ⟨fr',H',ι',q,g,f⟩
 | goto l=>exact ⟨fr',H',ι',q,g,f⟩
 | ret=>exact ⟨fr',H',ι',q,g,f⟩
 | panic ch=>exact ⟨fr',H',ι',q,g,f⟩
 | outgrown=>exact ⟨fr',H',ι',q,g,f⟩
theorem ZiX {H n x} :Fg H n x x=(refB n x=true\/x= .junk\/ ∃y,jM H n x=some y/\x= .p y):=by
 simp only [Fg,true_and,eq_iff_iff]
 grind
@[go_sem] theorem ZiV {H n x} :Fg H n x .junk=True:=by simp [Fg]
@[go_sem] theorem ZnC {H n} {x y:PV} :Fg H n (.p x) (.p y)=(y=x):=by simp [Fg,refB,jM]
@[go_sem] theorem Zk2 {H n o off len tot o' off' len' tot'} :Fg H n (.sl o off len tot) (.sl o' off' len' tot')=((o'=o/\off'=off/\len'=len/\tot'=tot)/\o<n):=by simp [Fg,refB]
@[go_sem] theorem ZiW {H n o off o' off'} :Fg H n (.ptr o off) (.ptr o' off')=((o'=o/\off'=off)/\o<n):=by simp [Fg,refB]
@[go_sem] theorem ZkY {H n} :P1 H n [] []=True:=by simp [P1]
@[go_sem] theorem ZiS {H n x l x' l'} :P1 H n (x::l) (x'::l')=(Fg H n x x'/\P1 H n l l'):=by simp [P1]
@[go_sem] theorem ZkZ {H n l} :MH H n l []=True:=by simp [MH]
@[go_sem] theorem ZiT {H n x l x' l'} :MH H n (x::l) (x'::l')=(DH H n x x'/\MH H n l l'):=by simp [MH]
@[go_sem] theorem Zer {H n cs cs'} :DH H n (.cells cs) (.cells cs')=P1 H n cs cs':=by simp [DH]
@[go_sem] theorem Zes {H n S S' xs xs'} :DH H n (.elems S xs) (.elems S' xs')=(S=S'/\xs=xs'):=by simp [DH]
@[go_sem] theorem Zk0 {H n es es2} :DH H n (.map es) (.map es2)=(es=es2):=by simp [DH]
@[go_sem] theorem ZnB {H n o o2} :Fg H n (.mp o) (.mp o2)=(o2=o/\o<n):=by simp [Fg,refB,jM]
@[go_sem] theorem ZiU {H n} :DH H n .dead .dead=True:=by simp [DH]
theorem Weak.mk {n0 fr H fr' H'} (h:n0<=H'.length/\H'.length<=H.length/\P1 H H'.length fr fr'/\MH H H'.length H H'):Weak n0 fr H fr' H':=Weak.of h.1 h.2.2.1 h.2.2.2 h.2.1
theorem wk {n0 fr H fr' H'} (h:n0<=H'.length/\H'.length<=H.length/\P1 H H'.length fr fr'/\MH H H'.length H H':=by simp (disch:=omega) only [go_sem,seval]):Weak n0 fr H fr' H':=Weak.mk h
theorem we {n0 x H' a b} (h:n0<=List.length b/\List.length b<=H'.length/\P1 H' (List.length b) [x] [a]/\MH H' (List.length b) H' b:=by simp (disch:=omega) only [go_sem,seval]): ∃y H'',Weak n0 [x] H' [y] H''/\y=a/\H''=b:=⟨_,_,Weak.mk h,rfl,rfl⟩
attribute [go_sem] List.length_cons List.length_nil List.cons_append List.nil_append List.append_nil List.map_cons List.map_nil List.drop_zero List.drop_succ_cons List.drop_nil List.take_succ_cons List.take_zero List.take_nil List.all_cons List.all_nil
 XE Vr and_self true_and and_true KV KU Dp Do Jg W9 Bool.and_self Zv if_true Yv W8 Jh IntWalk.i64_in IntWalk.i32_in IntWalk.u8_in IntWalk.u64_in IntWalk.u32_in
 beq_self_eq_true AI List.replicate_zero Bool.or_true Bool.true_or Bool.or_false Bool.false_or Vw V4
end Go.AM
namespace Go.AM
open Go.RowKit
theorem RP.weaker {X X':Nat->Prop} {w x v} (h:RP X w x v) (hx: ∀b,X' b->X b):RP X' w x v:=h.ext (w':=w) fun _ hb hs=>⟨fun h=>hb (hx _ h),hs,rfl⟩
theorem Good.forget {F w H' ι' w'} (he:Env F [] w) (hf: ∀b,F b->b<w.heap.size) (g:Good F [] [] w H' ι' w'):Good F [] [] w [] [] w' :=
 .up he ⟨⟨rfl,fun b hb=>by have:=hf b hb;have:=g.size;omega,fun i j b hi=>by simp at hi,fun i b hi=>by simp at hi,fun o cs ho=>by simp at ho,fun o S xs ho=>by simp at ho,fun o es ho=>by simp at ho,fun o T E r bs ho=>by simp at ho⟩,
  g.os,g.tape,g.output,fun b c t h=>(g.shape b c t h).imp (fun h=>absurd h.1 Zb) id,g.size,g.keep,fun _ _ h=>h,fun o ob ho=>by simp at ho⟩
theorem ACalls.pure {P g args} {y:PV} (h:ACalls P g args [] fun x _=>x= .p y):ACalls P g args [] fun x H'=>x= .p y/\H'= []:=by
 refine ⟨h.1,fun F ι w vs hr hv=> ?_⟩;have hι:ι= []:=Z7 hr.len;subst hι;refine (h.2 F [] w vs hr hv).mono ?_;rintro e w' ⟨x,H',ι',v,rfl,rfl,gd,rv⟩
 cases rv with | p _ _ rp =>
 exact ⟨_,[],[],v,rfl,⟨rfl,rfl⟩,gd.forget hr.env hr.fin,.p _ _ (rp.weaker fun b hb=> .inl (by rcases hb with hb | hb;exact hb;simp at hb))⟩
theorem Ek {F:Nat->Prop} {w w':World} {H':List Obj} {ι':List (Option Nat)} {v:Value} {o S n:Nat} {xs:List PV} (hF: ∀b,F b->b<w.heap.size) (hn:xs.length=n) (ho:oat H' o= .elems S xs)
  (gd:Good F [] [] w H' ι' w') (rv:RV F H' ι' w' (.sl o 0 n n) v): ∃ι2,Good F [] [] w [.elems S xs] ι2 w'/\RV F [.elems S xs] ι2 w' (.sl 0 0 n n) v:=by
 have hH:=Z3 ho Zb;have hlt:=(ZS.1 hH).1
 have hlt':o<ι'.length:=by rw [gd.rel.len];exact hlt
 have hι':ι'[o]? =some (ι'[o]):=by simp [hlt']
 have hget: ∀ {i:Nat} {q:Option Nat},[ι'[o]][i]? =some q->i=0/\ι'[o]? =some q:=fun {i q} h=>by
  grind
 have hown: ∀b,Own F [ι'[o]] b->Own F ι' b:=fun b hb=>by
  rcases hb with hb | hb
  ·exact .inl hb
  ·simp at hb;right;rw [hb];simp
 refine ⟨[ι'[o]],⟨⟨⟨rfl,fun b hb=> ?_,fun i j b hi hj=> ?_,fun i b hi=> ?_,fun o' cs ho'=> ?_,fun o' S' xs' ho'=> ?_,fun o' es ho'=>by grind,fun o' T E r bs ho'=>by grind⟩,gd.rel.env.le hown⟩,gd.os,gd.tape,gd.output,fun b c t h=>(gd.shape b c t h).imp (fun h=>absurd h.1 Zb) id,gd.size,gd.keep,fun b hb _ h=> ?_,fun o ob ho=>by simp at ho⟩,?_⟩
 ·have:=hF b hb;have:=gd.size;omega
 ·grind
 ·exact gd.rel.avo o b (hget hi).2
 ·grind
 ·cases o' with
  | zero =>
   simp at ho';obtain ⟨rfl,rfl⟩:=ho';rcases gd.rel.elm o _ _ hH with ⟨e1,e2⟩ | ⟨b,c,t,cap,e1,e2,e3,e4,e5,e6,e7⟩
   ·grind
   ·exact .inr ⟨b,c,t,cap,by grind,e2,e3,e4,e5,e6,fun i x j y hi hj=>(e7 i x j y hi hj).weaker hown⟩
  | succ i=>simp at ho'
 ·simp at h;exact gd.own b hb Zb (by rw [h];simp)
 ·cases rv with
  | slNil _ S2 a h1 h2 =>
   rw [hH] at h2;simp at h2;obtain ⟨rfl,rfl⟩:=h2;exact .slNil 0 S a (by grind) rfl
  | sl _ _ _ _ b S2 cap t xs2 c h1 h2 ht hw hcap hl hlen hm =>
   rw [hH] at h2;simp at h2;obtain ⟨rfl,rfl⟩:=h2;exact .sl 0 0 n n b S cap t xs c (by grind) rfl hn hw hcap hl hlen hm
  | slD _ _ _ _ _ h1=>grind
  | slS _ _ _ _ _ S2 xs2 h1 hne=>grind
  | slC _ _ _ _ _ _ hd=>grind
theorem ACalls.fresh {P g args} {S n:Nat} {xs:List PV} (hn:xs.length=n) (h:ACalls P g args [] fun x H'=> ∃o,x= .sl o 0 n n/\oat H' o= .elems S xs):ACalls P g args [] fun x H'=>x= .sl 0 0 n n/\H'= [.elems S xs]:=by
 refine ⟨h.1,fun F ι w vs hr hv=> ?_⟩;have hι:ι= []:=Z7 hr.len;subst hι;refine (h.2 F [] w vs hr hv).mono ?_;rintro e w' ⟨x,H',ι',v,rfl,⟨o,rfl,ho⟩,gd,rv⟩;obtain ⟨ι2,g2,r2⟩:=Ek hr.fin hn ho gd rv
 grind
theorem ACalls.freshE {P g args} {α:Type} {S:Nat} {f:α->PV} {R:List α->Prop} (h:ACalls P g args [] fun x H'=> ∃l:List α,R l/\ ∃o,x= .sl o 0 l.length l.length/\oat H' o= .elems S (l.map f)) :
  ACalls P g args [] fun x H'=> ∃l:List α,R l/\x= .sl 0 0 l.length l.length/\H'= [.elems S (l.map f)]:=by
 refine ⟨h.1,fun F ι w vs hr hv=> ?_⟩;have hι:ι= []:=Z7 hr.len;subst hι;refine (h.2 F [] w vs hr hv).mono ?_;rintro e w' ⟨x,H',ι',v,rfl,⟨l,hl,o,rfl,ho⟩,gd,rv⟩;obtain ⟨ι2,g2,r2⟩:=Ek hr.fin Zb ho gd rv
 grind
theorem ACalls.frozen {P g args} {S n:Nat} {xs:List PV} (hn:xs.length=n) (h:ACalls P g args [] fun x H'=>x= .sl 0 0 n n/\H'= [.elems S xs]):ACalls P g args [] fun x H'=>x= .p (.list false xs)/\H'= []:=by
 refine ⟨h.1,fun F ι w vs hr hv=> ?_⟩;have hι:ι= []:=Z7 hr.len;subst hι;refine (h.2 F [] w vs hr hv).mono ?_;rintro e w' ⟨x,H',ι',v,rfl,⟨rfl,rfl⟩,gd,rv⟩;have hk:Keeps (Own F ι') w' (Own F []) w':=fun b hb hs=>⟨fun h=>hb (.inl (by rcases h with h | h;exact h;simp at h)),hs,rfl⟩
 have:=Kp (S:=S) (xs:=xs) (off:=0) (len:=n) (tot:=n) (Own F []) (fun b hb h=>by
  rcases h with h | h
  ·exact (gd.rel.avo 0 b hb).1 h
  ·simp at h) hk gd.rel rfl hn Za rv
 rw [XE,List.drop_zero,Cp Za] at this;exact ⟨_,[],[],v,rfl,⟨rfl,rfl⟩,gd.forget hr.env hr.fin,.p _ _ this⟩
theorem ACalls.frozenE {P g args} {α:Type} {S:Nat} {f:α->PV} {R:List α->Prop} (h:ACalls P g args [] fun x H'=> ∃l:List α,R l/\x= .sl 0 0 l.length l.length/\H'= [.elems S (l.map f)]) :
  ACalls P g args [] fun x H'=> ∃l:List α,R l/\x= .p (.list false (l.map f))/\H'= []:=by
 refine ⟨h.1,fun F ι w vs hr hv=> ?_⟩;have hι:ι= []:=Z7 hr.len;subst hι;refine (h.2 F [] w vs hr hv).mono ?_;rintro e w' ⟨x,H',ι',v,rfl,⟨l,hl,rfl,rfl⟩,gd,rv⟩;have hk:Keeps (Own F ι') w' (Own F []) w':=fun b hb hs=>⟨fun h=>hb (.inl (by rcases h with h | h;exact h;simp at h)),hs,rfl⟩
 have:=Kp (S:=S) (xs:=l.map f) (off:=0) (len:=l.length) (tot:=l.length) (Own F []) (fun b hb h=>by
  rcases h with h | h
  ·exact (gd.rel.avo 0 b hb).1 h
  ·simp at h) hk gd.rel rfl Zb Za rv
 rw [XE,List.drop_zero,Cp Zb] at this;exact ⟨_,[],[],v,rfl,⟨l,hl,rfl,rfl⟩,gd.forget hr.env hr.fin,.p _ _ this⟩
theorem ACalls.useV {P g args} {α:Type} {f:α->PV} {R:α->Prop} {H:List Obj} {K:V->List Obj->Prop} (h:ACalls P g args [] fun x H'=> ∃a:α,R a/\x= .p (f a)/\H'= []) (k: ∀a,R a->K (.p (f a)) H) (ha:Xd 0 args=true:=by rfl):ACalls P g args H K:=by
 refine (h.behind ha H).mono ?_;rintro x H' ⟨y',H1,⟨a,ra,rfl,rfl⟩,rfl,rfl⟩
 grind [shV]
theorem ACalls.useE {P g args} {α:Type} {S:Nat} {f:α->PV} {R:List α->Prop} {H:List Obj} {K:V->List Obj->Prop} (h:ACalls P g args [] fun x H'=> ∃l:List α,R l/\x= .sl 0 0 l.length l.length/\H'= [.elems S (l.map f)])
  (k: ∀l,R l->K (.sl H.length 0 l.length l.length) (H++ [.elems S (l.map f)])) (ha:Xd 0 args=true:=by rfl):ACalls P g args H K:=by
 refine (h.behind ha H).mono ?_;rintro x H' ⟨y',H1,⟨l,rl,rfl,rfl⟩,rfl,rfl⟩
 grind [shV,shO]
theorem ACalls.use {P g args} {y:PV} {H:List Obj} {K:V->List Obj->Prop} (h:ACalls P g args [] fun x H'=>x= .p y/\H'= []) (k:K (.p y) H) (ha:Xd 0 args=true:=by rfl):ACalls P g args H K:=by
 refine (h.behind ha H).mono ?_;rintro x H' ⟨y',H1,⟨rfl,rfl⟩,rfl,rfl⟩
 grind [shV]
theorem ACalls.useF {P g args} {S n:Nat} {xs:List PV} {H:List Obj} {K:V->List Obj->Prop} (h:ACalls P g args [] fun x H'=>x= .sl 0 0 n n/\H'= [.elems S xs]) (k:K (.sl H.length 0 n n) (H++ [.elems S xs])) (ha:Xd 0 args=true:=by rfl):ACalls P g args H K:=by
 refine (h.behind ha H).mono ?_;rintro x H' ⟨y',H1,⟨rfl,rfl⟩,rfl,rfl⟩
 grind [shV,shO]
theorem Zc {P:Program} {g:FuncId} {fn:Func} {c:Code} {args:List V} {y:PV} (hf:P.funcs[g]? =some fn) (hb:fn.body=some c) (hg:Zi P g)
  (h:Q5 [] P c (args++List.replicate (fn.ntmps-args.length) .junk) [] (JL P fn.results.toList fun x _=>x= .p y)):ACalls P g args [] fun x H'=>x= .p y/\H'= [] :=
 (X6 hf hb hg (Zg [] _ _ _ _ h)).pure
theorem AW (cuts:List Nat) {P:Program} {g:FuncId} {fn:Func} {c:Code} {args:List V} {y:PV} (hf:P.funcs[g]? =some fn) (hb:fn.body=some c) (hg:Zi P g)
  (h:Q5 cuts P c (args++List.replicate (fn.ntmps-args.length) .junk) [] (JL P fn.results.toList fun x _=>x= .p y)):ACalls P g args [] fun x H'=>x= .p y/\H'= [] :=
 (X6 hf hb hg (Zg cuts _ _ _ _ h)).pure
theorem VX {P:Program} {g:FuncId} {fn:Func} {c:Code} {args:List V} {S n:Nat} {xs:List PV} (hn:xs.length=n) (hf:P.funcs[g]? =some fn) (hb:fn.body=some c) (hg:Zi P g)
  (h:Q5 [] P c (args++List.replicate (fn.ntmps-args.length) .junk) [] (JL P fn.results.toList fun x H'=> ∃o,x= .sl o 0 n n/\oat H' o= .elems S xs)):ACalls P g args [] fun x H'=>x= .sl 0 0 n n/\H'= [.elems S xs] :=
 (X6 hf hb hg (Zg [] _ _ _ _ h)).fresh hn
theorem Fq (cuts:List Nat) {P:Program} {g:FuncId} {fn:Func} {c:Code} {args:List V} {S n:Nat} {xs:List PV} (hn:xs.length=n) (hf:P.funcs[g]? =some fn) (hb:fn.body=some c) (hg:Zi P g)
  (h:Q5 cuts P c (args++List.replicate (fn.ntmps-args.length) .junk) [] (JL P fn.results.toList fun x H'=> ∃o,x= .sl o 0 n n/\oat H' o= .elems S xs)):ACalls P g args [] fun x H'=>x= .sl 0 0 n n/\H'= [.elems S xs] :=
 (X6 hf hb hg (Zg cuts _ _ _ _ h)).fresh hn
theorem Xa (cuts:List Nat) {P:Program} {g:FuncId} {fn:Func} {c:Code} {args:List V} {α:Type} {S:Nat} {f:α->PV} {R:List α->Prop} (hf:P.funcs[g]? =some fn) (hb:fn.body=some c) (hg:Zi P g)
  (h:Q5 cuts P c (args++List.replicate (fn.ntmps-args.length) .junk) [] (JL P fn.results.toList fun x H'=> ∃l:List α,R l/\ ∃o,x= .sl o 0 l.length l.length/\oat H' o= .elems S (l.map f))):ACalls P g args [] fun x H'=> ∃l:List α,R l/\x= .sl 0 0 l.length l.length/\H'= [.elems S (l.map f)] :=
 (X6 hf hb hg (Zg cuts _ _ _ _ h)).freshE
theorem Weak.ofNil {n0 fr H fr' H'} (t S:Nat) (h:gt fr t= .p (.list true [])) (hn:n0<=H.length) (k:Weak n0 (pt fr t (.sl H.length 0 0 0)) (H++ [.elems S []]) fr' H'):Weak n0 fr H fr' H' :=
 (Weak.nil t S h hn).trans k
end Go.AM
namespace Go.AM
open Go.RowKit
section
variable {P : Program} {H : List Obj} {t : TypeId} {fr : List V}
def DW (e:Option (Option Nat×Nat)) (c:Bool) (xs:List PV) (lo hi:V):Option V:=match e,lo,hi with
 | some (none,S),.p (.int _ a),.p (.int _ b)=>if Cb S xs=true/\0<=a/\a<=b/\b<=xs.length then some (.p (.list (c&&decide (b=xs.length)) ((xs.take b.toNat).drop a.toNat))) else none
 | _,_,_=>none
def V.isInt : V->Option Int
 | .p (.int _ n)=>some n
 | _=>none
theorem V.isInt_some {x:V} {n} (h:x.isInt=some n): ∃k,x= .p (.int k n):=by
 unfold V.isInt at h;grind
theorem Qy {d:Int} {x:Operand} :MM d fr (some x)=(ev fr x).isInt:=rfl
theorem Cc {c xs k k' a b} :(Q3 P t c xs a b none).map .p=DW (YH P t) c xs (.p (.int k a)) (.p (.int k' b)):=by
 simp only [Q3,DW]
 grind
theorem OC {e c xs lo hi} (h:lo.isInt=none):DW e c xs lo hi=none:=by
 unfold DW;grind [V.isInt]
theorem OB {e c xs lo hi} (h:hi.isInt=none):DW e c xs lo hi=none:=by
 unfold DW;grind [V.isInt]
@[go_sem] theorem ZcG {c xs hi} :WJ P H t fr (.p (.list c xs)) none (some hi) none=DW (YH P t) c xs (.p (.int .i64 0)) (ev fr hi):=by
 simp only [WJ,Qy]
 cases h:(ev fr hi).isInt with
 | none=>simp [MM,OB h]
 | some n=>obtain ⟨k,e⟩:=V.isInt_some h;rw [e,<- Cc];rfl
@[go_sem] theorem ZcH {c xs lo} :WJ P H t fr (.p (.list c xs)) (some lo) none none=DW (YH P t) c xs (ev fr lo) (.p (.int .i64 (List.length xs))):=by
 simp only [WJ,Qy]
 cases h:(ev fr lo).isInt with
 | none=>simp [OC h]
 | some n=>obtain ⟨k,e⟩:=V.isInt_some h;rw [e,<- Cc];rfl
@[go_sem] theorem qZ {c xs lo hi} :WJ P H t fr (.p (.list c xs)) (some lo) (some hi) none=DW (YH P t) c xs (ev fr lo) (ev fr hi):=by
 simp only [WJ,Qy]
 cases h:(ev fr lo).isInt with
 | none=>simp [OC h]
 | some n =>
  cases h2:(ev fr hi).isInt with
  | none=>simp [OB h2]
  | some m=>grind [V.isInt_some,Cc]
@[go_sem] theorem Zf2 {α:Type} {f:α->PV} {l:List α} {S c k k' a b} (h0:0<=a) (h1:a<=b) (h2:b<=(l.length:Int)) :
  DW (some (none,S)) c (l.map f) (.p (.int k a)) (.p (.int k' b))=if Cb S (l.map f)=true then some (.p (.list (c&&decide (b=l.length)) (((l.take b.toNat).drop a.toNat).map f))) else none:=by
 simp_all [DW]
end
def Ix (P:Program) (d:Option TypeDesc) (x i:V):Option V :=
 match d,x,i with
 | some .string,.p (.str s),.p (.int _ n)=>if 0<=n then (s[n.toNat]?).map fun b=> .p (.int .u8 b.toNat) else none
 | some (.array k e),.p (.agg cs),.p (.int _ n)=>if 0<=n/\n<k then (match YE P e with | some m=>(apart P e cs (n.toNat*m)).map .p | none=>none) else none
 | _,_,_=>none
@[go_sem] theorem Zjc {P:Program} {t:TypeId} {x i:V} :Iy P t x i=Ix P (P.underlying t) x i:=Zh rfl rfl
@[go_sem] theorem Zcn {P:Program} {s:List UInt8} {k n} (h0:0<=n) (h1:n<(s.length:Int)):Ix P (some .string) (.p (.str s)) (.p (.int k n))=some (.p (.int .u8 ((nth s n.toNat).toNat:Nat))):=by
 grind [Ix,Ze]
def Hd (d:Option TypeDesc) (s:List UInt8) (lo hi:V):Option V:=match d,lo,hi with
 | some .string,.p (.int _ a),.p (.int _ b)=>if 0<=a/\a<=b/\b<=s.length then some (.p (.str ((s.take b.toNat).drop a.toNat))) else none
 | _,_,_=>none
theorem kL {d s lo hi} (h:lo.isInt=none):Hd d s lo hi=none:=by
 unfold Hd;grind [V.isInt]
theorem kK {d s lo hi} (h:hi.isInt=none):Hd d s lo hi=none:=by
 unfold Hd;grind [V.isInt]
section
variable {P : Program} {H : List Obj} {t : TypeId} {fr : List V}
theorem Rj {s:List UInt8} {k k' a b} :(match P.underlying t with | some .string=>(if 0<=a/\a<=b/\b<=(s.length:Int) then some (V.p (.str ((s.take b.toNat).drop a.toNat))) else none) | _=>none)=Hd (P.underlying t) s (.p (.int k a)) (.p (.int k' b)):=by
 simp only [Hd]
 grind
@[go_sem] theorem kM {s lo hi} :WJ P H t fr (.p (.str s)) (some lo) (some hi) none=Hd (P.underlying t) s (ev fr lo) (ev fr hi):=by
 simp only [WJ,Qy]
 cases h:(ev fr lo).isInt with
 | none=>rw [kL h];simp
 | some n =>
  cases h2:(ev fr hi).isInt with
  | none=>rw [kK h2];simp
  | some m =>
   grind [V.isInt_some,Rj]
def IE (e:Option (Option Nat×Nat)) (xs:List PV) (hi mx:V):Option V:=match e,hi,mx with
 | some (none,S),.p (.int _ b),.p (.int _ m)=>if Cb S xs=true/\0<=b/\b<=xs.length/\m=b then some (.p (.list true (xs.take b.toNat))) else none
 | _,_,_=>none
theorem kI {e xs hi mx} (h:hi.isInt=none):IE e xs hi mx=none:=by
 unfold IE;grind [V.isInt]
theorem kJ {e xs hi mx} (h:mx.isInt=none):IE e xs hi mx=none:=by
 unfold IE;grind [V.isInt]
@[go_sem] theorem qY {c xs hi mx} :WJ P H t fr (.p (.list c xs)) none (some hi) (some mx)=IE (YH P t) xs (ev fr hi) (ev fr mx):=by
 simp only [WJ,Qy]
 cases h:(ev fr hi).isInt with
 | none=>grind [kI]
 | some n =>
  cases h2:(ev fr mx).isInt with
  | none=>grind [kJ]
  | some m =>
   obtain ⟨k,e⟩:=V.isInt_some h;obtain ⟨k2,e2⟩:=V.isInt_some h2;rw [e,e2];simp only [MM,Q3,IE]
   grind
@[go_sem] theorem Zf1 {α:Type} {f:α->PV} {l:List α} {S k k' b m} (h0:m=b) (h1:b=(l.length:Int)):IE (some (none,S)) (l.map f) (.p (.int k b)) (.p (.int k' m))=if Cb S (l.map f)=true then some (.p (.list true (l.map f))) else none:=by
 subst h0;subst h1;simp only [IE,Zv]
 by_cases h:Cb S (l.map f)=true
 ·simp_all [Cp]
 grind
end
@[go_sem low] theorem T1 {H:List Obj} {S b xs ys o n} :Um H (some (S,b)) (.elems S xs) o n (some ys)=if xs.length=n/\Ap S ys=true/\(n+ys.length)*b<=140737488355328/\n+ys.length<=140737488355328 then some (.sl o 0 (n+ys.length) (n+ys.length),EK H o (.elems S (xs++ys))) else none:=by simp [Um]
@[go_sem] theorem Zk1 {H:List Obj} {n f a b f' a' b'} :Fg H n (.fn f a b) (.fn f' a' b')=((f'=f/\a'=a/\b'=b)/\refB n (.fn f a b)=true):=by simp [Fg,jM]
@[go_sem] theorem Zkh {n f a b} :refB n (.fn f a b)=(Xd n a&&Xd n b):=by simp [refB]
@[go_sem] theorem Zl9 {n x} :refB n (.p x)=true:=by simp [refB]
@[go_sem] theorem ZhL {n o off} :refB n (.ptr o off)=decide (o<n):=by simp [refB]
@[go_sem] theorem Zki {n o off l t} :refB n (.sl o off l t)=decide (o<n):=by simp [refB]
@[go_sem] theorem Zdu {n} :Xd n []=true:=by simp [Xd]
@[go_sem] theorem Zbx {n x l} :Xd n (x::l)=(refB n x&&Xd n l):=by simp [Xd]
theorem ACalls.useH {P g args H} {v:V} {H2:List Obj} {K:V->List Obj->Prop} (h:ACalls P g args H fun x H'=>x=v/\H'=H2) (k:K v H2):ACalls P g args H K :=
 h.mono (by grind)
theorem DR {α:Type} {f:α->PV} {S:Nat} (h: ∀x,(f x).cells.length=S) (l:List α):Cb S (l.map f)=true:=by
 cases l with
 | nil=>rfl
 | cons x l=>simp [Cb,h]
@[go_sem] theorem Zjg {k k'} {a b:Int} (h:b<=a):G5 false [.p (.int k a),.p (.int k' b)]=some (.int k a):=by simp [G5];omega
def Ul (F:Option (Nat×Nat×PV)) (H:List Obj) (x y:V):Option (V×List Obj):=match F,x,y with
 | some (S,by',z),.p (.int .i64 n),.p (.int .i64 m)=>if n=m/\0<=n/\(by':Int)*n<=281474976710656/\n<=281474976710656 then some (.sl H.length 0 n.toNat n.toNat,H++ [.elems S (List.replicate n.toNat z)]) else none
 | _,_,_=>none
theorem Av {P:Program} {t:TypeId} {fr:List V} {H:List Obj} {x y:Operand} {F} (h:LA P t=some F):Wl P (.makeSlice t x y) fr H=Ul (some F) H (ev fr x) (ev fr y):=by
 unfold LA at h
 split at h
 ·rename_i e hu
  split at h
  ·rename_i S' z' b h1 h2 h3
   split at h
   ·rename_i hc;simp at h;subst h
    have h3':(P.info? e).map (fun x=>(x.bytes:Int))=some (b:Int):=by
     cases hi:P.info? e with
     | none=>grind
     | some i=>grind
    simp only [Wl,hu,h2,hc.1,if_true,Ow,h1,h3'];generalize ev fr x=X;generalize ev fr y=Y
    by_cases hX: ∃n,X= .p (.int .i64 n)
    ·obtain ⟨n,rfl⟩:=hX
     by_cases hY: ∃m,Y= .p (.int .i64 m)
     ·obtain ⟨m,rfl⟩:=hY;simp [Ul,hc.2]
     ·have e1:Ul (some (S',b,z')) H (.p (.int .i64 n)) Y=none:=by
       unfold Ul;grind
      grind
    ·have e1:Ul (some (S',b,z')) H X Y=none:=by
      unfold Ul;grind
     grind
   ·cases h
  ·cases h
 ·cases h
@[go_sem] theorem Zcv {H:List Obj} {S b:Nat} {z n} (h0:0<=n) (h1:(b:Int)*n<=281474976710656) (h2:n<=281474976710656):Ul (some (S,b,z)) H (.p (.int .i64 n)) (.p (.int .i64 n))=some (.sl H.length 0 n.toNat n.toNat,H++ [.elems S (List.replicate n.toNat z)]):=by
 simp_all [Ul]
theorem Zbn (x y:Nat) (hx:x<9223372036854775808) (hy:y<9223372036854775808):IntKind.i64.wrap ((BitVec.ofInt 64 (x:Int)|||BitVec.ofInt 64 (y:Int)).toNat:Int)=((x|||y:Nat):Int):=by
 have e:(BitVec.ofInt 64 (x:Int)|||BitVec.ofInt 64 (y:Int)).toNat=x|||y:=by
  grind
 have h:x|||y<2^63:=Qp Za Za
 grind [IntWalk.i64_in]
theorem jV (x y:Nat) (hx:x<9223372036854775808) (hy:y<9223372036854775808):IntKind.i64.wrap ((BitVec.ofInt 64 (x:Int)&&&BitVec.ofInt 64 (y:Int)).toNat:Int)=((x&&&y:Nat):Int):=by
 grind [Nat.and_le_left,IntWalk.i64_in]
@[go_sem high] theorem TL {P:Program} {t:TypeId} {x y:Nat} (hx:x<9223372036854775808) (hy:y<9223372036854775808):X5 P .or t (.p (.int .i64 (x:Int))) (.p (.int .i64 (y:Int)))=some (.int .i64 ((x|||y:Nat):Int)):=by
 rw [Oq];exact XA (fun q=>some (PV.int .i64 q)) (Zbn x y hx hy)
@[go_sem high] theorem P8 {P:Program} {t:TypeId} {x y:Nat} (hx:x<9223372036854775808) (hy:y<9223372036854775808):X5 P .and t (.p (.int .i64 (x:Int))) (.p (.int .i64 (y:Int)))=some (.int .i64 ((x&&&y:Nat):Int)):=by
 rw [TJ];exact XA (fun q=>some (PV.int .i64 q)) (jV x y hx hy)
def pw (k:Nat):Nat:=2^k
theorem oC (k:Nat):pw (k+1)=2*pw k:=by grind [pw]
theorem C4 {k m:Nat} (h:k<=m):pw k<=pw m:=Ys Za h
theorem H5 (k:Nat):0<pw k:=Nat.pow_pos Za
theorem GE : pw 62=4611686018427387904:=by decide
@[go_sem high] theorem Zb8 {P:Program} {t:TypeId} {k'} {a:Int} (h0:0<=a) (h1:a<=62):X5 P .shl t (.p (.int .i64 1)) (.p (.int k' a))=some (.int .i64 ((pw a.toNat:Nat):Int)):=by
 rw [TN h0]
 have h2:min a.toNat IntKind.i64.bits=a.toNat:=by show min a.toNat 64=a.toNat;omega
 rw [h2,Int.one_mul]
 have h3:((2:Int)^a.toNat)=((pw a.toNat:Nat):Int):=by simp [pw]
 rw [h3];have:=C4 (show a.toNat<=62 by omega)
 grind [GE,IntWalk.i64_in]
attribute [go_sem] List.length_append List.map_append not_false_eq_true not_true_eq_false false_and and_false true_or or_true false_or or_false Classical.not_not Bool.false_eq_true Bool.and_false Bool.false_and
end Go.AM
namespace Go.AM
open Go.RowKit
theorem HD {P ds frJ H} {K K':List V->Prop} : ∀(l:List Oper) (i:Nat) (vals:List V),(∀ys,ys.length=vals.length+l.length->K ys->K' ys)->hd P ds frJ H K i l vals->hd P ds frJ H K' i l vals
 | [],i,vals,hk,h=>hk vals rfl h
 | o::l,i,vals,hk,h=>by
  have ih: ∀y,hd P ds frJ H K (i+1) l (vals++ [y])->hd P ds frJ H K' (i+1) l (vals++ [y]):=fun y=>HD l (i+1) (vals++ [y]) fun ys hy=>hk ys (by simp at hy ⊢;omega);simp only [hd] at h ⊢
  split at h
  ·obtain ⟨y,h1,h2⟩:=h;exact ⟨y,h1,ih y h2⟩
  ·unfold Xq at h ⊢
   split at h
   ·exact ⟨fun e=>by obtain ⟨y,h1,h2⟩:=h.1 e;exact ⟨y,h1,ih y h2⟩,fun e=>ih _ (h.2 e)⟩
   ·exact ih _ h
   ·exact h.elim
def hall : List (Option Nat)->List V->List V->List V
 | some d::ds,v::vals,fr=>hall ds vals (pt fr d v)
 | none::ds,_::vals,fr=>hall ds vals fr
 | _,_,fr=>fr
theorem AG (d:Option Nat) (v:V) (ds:List (Option Nat)) (vals:List V): ∀(l:List Nat) (fr:List V),ZH (d::ds) (v::vals) (l.map (· +1)) fr=ZH ds vals l fr
 | [],fr=>rfl
 | j::l,fr=>by
  simp only [ZG,ZH,Do]
  split<;>exact AG d v ds vals l _
theorem Eo : ∀(ds:List (Option Nat)) (vals:List V) (fr:List V),vals.length=ds.length->ZH ds vals (List.range ds.length) fr=hall ds vals fr
 | [],[],fr,_=>rfl
 | d::ds,v::vals,fr,h=>by
  have ih:=fun fr=>Eo ds vals fr (by simpa using h);rw [Zz,List.range_succ_eq_map]
  cases d with
  | none=>simp only [ZH,Dp,hall];rw [AG];exact ih fr
  | some d=>simp only [ZH,Dp,hall];rw [AG];exact ih _
 | [],_::_,_,h=>by simp at h
 | _::_,[],_,h=>by simp at h
theorem DX {P:Program} {id:Nat} {l:List Oper} {fr:List V} {H:List Obj} {Q:Exit->List V->List Obj->Prop} {t} (hm:P.follows .mixedOrders=true) (hB:W5 (List.toArray l) l.length=true)
  (h:hd P (l.map (·.dst)) (Z2 (l.map (·.dst)) fr) H (Zu (fun vals=>Q .normal (hall (l.map (·.dst)) vals (Z2 (l.map (·.dst)) fr)) H) ⟨⟩) 0 l []) :
  AWP P (.region id (Zu (List.toArray l) t) true) fr H Q:=by
 refine FU (ops:=List.toArray l) l.length hm hB ?_;have e0:(List.toArray l).toList=l:=rfl;rw [e0];have e1:(l.map (fun x=>Oper.dst x)).take l.length=l.map (·.dst):=Cp Zb;have e2:l.take l.length=l:=Yb
 have e3:l.drop l.length= []:=Zb
 rw [e1,e2,e3];refine HD _ _ _ (fun ys hy hk=> ?_) h;have e4:=Eo (l.map (·.dst)) ys (Z2 (l.map (·.dst)) fr) (by grind);rw [Zv] at e4;simp only [Yz];rw [e4];exact hk
def RT (A:V->Prop) (B:V->Prop):Prop:= ∃y,A y/\B y
section
variable {P : Program} {ds : List (Option Nat)} {frJ : List V} {H : List Obj} {K : List V -> Prop} {i : Nat} {r : List Oper} {vals : List V} {d : Option Nat} {op : Op} {t : TypeId} {ps : String} {af : Array Edge}
@[go_sem ↓] theorem ZlL : hd P ds frJ H K i [] vals=K vals:=Zh rfl rfl
@[go_sem ↓] theorem ZjS : hd P ds frJ H K i (⟨d,op,t,ps,af,none⟩::r) vals=RT (fun y=>ZA P ⟨d,op,t,ps,af,none⟩ (MO (ZH ds vals (ZR i ⟨d,op,t,ps,af,none⟩) frJ)) H (Zu (fun x H'=>x=y/\H'=H) ⟨⟩)) (Zu (fun y=>hd P ds frJ H K (i+1) r (vals++ [y])) ⟨⟩):=Zh rfl rfl
@[go_sem ↓, go_sem] theorem ZlA {v:V} {B:V->Prop} {t} :RT (fun y=>v=y) (Zu B t)=B v:=by simp [RT,Zu]
@[go_sem] theorem Zc1 {l:List Edge} {g} :ZR i ⟨d,op,t,ps,List.toArray l,g⟩=(l.filter fun e=>Region.binds .any e&&decide (e.on<i)).map (·.on):=Zh rfl rfl
@[go_sem] theorem uO {on} :Region.binds .any ⟨on,.data⟩=true:=Zh rfl rfl
@[go_sem] theorem rM {on} :Region.binds .any ⟨on,.phase⟩=true:=Zh rfl rfl
@[go_sem] theorem rL {on} :Region.binds .any ⟨on,.chain⟩=true:=Zh rfl rfl
@[go_sem] theorem uP {on k} :Region.binds .any ⟨on,.textOnly k⟩=false:=Zh rfl rfl
@[go_sem] theorem Zf8 {on k} :Region.binds .any ⟨on,.gcOnly k⟩=false:=Zh rfl rfl
def O6 (ds:List (Option Nat)) (vals:List V) (l:List Nat) (fr:List V) (a:Option (Option Nat)) (v:Option V):List V:=match a,v with
 | some (some d),some v=>ZH ds vals l (pt fr d v)
 | _,_=>ZH ds vals l fr
@[go_sem] theorem ZgE {fr} :ZH ds vals [] fr=fr:=Zh rfl rfl
@[go_sem] theorem Zdb {j l fr} :ZH ds vals (j::l) fr=O6 ds vals l fr ds[j]? vals[j]? :=by rfl
@[go_sem] theorem wB {l fr d v} :O6 ds vals l fr (some (some d)) (some v)=ZH ds vals l (pt fr d v):=Zh rfl rfl
@[go_sem] theorem Zc5 {d ds v vals fr} :hall (some d::ds) (v::vals) fr=hall ds vals (pt fr d v):=Zh rfl rfl
@[go_sem] theorem Zgy {fr} :hall [] [] fr=fr:=Zh rfl rfl
@[go_sem] theorem Zda {fr} :Z2 [] fr=fr:=Zh rfl rfl
@[go_sem] theorem wA {d l fr} :Z2 (some d::l) fr=Z2 l (pt fr d .junk):=Zh rfl rfl
theorem Zp {f azs} {z:PV} {B:V->Prop} {t} (h:ACalls P f azs [] fun x H'=>x= .p z/\H'= []) (k:B (.p z)) (ha:Xd 0 azs=true:=by rfl) :
  RT (fun y=>ACalls P f azs H (Zu (Zu (fun x H'=>x=y/\H'=H) ⟨⟩) ⟨⟩)) (Zu B t) :=
 ⟨.p z,h.use ⟨rfl,rfl⟩ ha,k⟩
end
section
variable {P : Program} {fr : List V} {H : List Obj} {k : V -> List Obj -> Prop} {d : Option Nat} {t : TypeId} {ps : String} {af : Array Edge} {g : Option (Nat × Bool)}
@[go_sem ↓] theorem uA {u n l} :ZA P ⟨d,.buildSlice u n (List.toArray l),t,ps,af,g⟩ fr H k=AN ((IA (UU P u) H n (l.map fun x=>(x.1,ev fr x.2))).map .p) (Zu (fun v=>k v H) ⟨⟩):=by
 grind [ZA,AN,Zu]
@[go_sem] theorem tJ {S n l} :IA (some S) H n l=if n=l.length/\n*S<=16777216/\0<S then (QI H S 0 l).map (.list false) else none:=Zh rfl rfl
@[go_sem ↓] theorem rC {x} :ZA P ⟨d,.move x,t,ps,af,g⟩ fr H k=Zs P ⟨d,.move x,t,ps,af,g⟩ fr H k:=rfl
@[go_sem ↓] theorem jF {x} :ZA P ⟨d,.assign x,t,ps,af,g⟩ fr H k=Zs P ⟨d,.assign x,t,ps,af,g⟩ fr H k:=rfl
@[go_sem ↓] theorem rD {x y z} :ZA P ⟨d,.pick x y z,t,ps,af,g⟩ fr H k=Zs P ⟨d,.pick x y z,t,ps,af,g⟩ fr H k:=rfl
@[go_sem ↓] theorem kN {x} :ZA P ⟨d,.alloc x,t,ps,af,g⟩ fr H k=Zs P ⟨d,.alloc x,t,ps,af,g⟩ fr H k:=rfl
@[go_sem ↓] theorem tY {x y} :ZA P ⟨d,.box x y,t,ps,af,g⟩ fr H k=Zs P ⟨d,.box x y,t,ps,af,g⟩ fr H k:=rfl
@[go_sem ↓] theorem kP {x y} :ZA P ⟨d,.build x y,t,ps,af,g⟩ fr H k=Zs P ⟨d,.build x y,t,ps,af,g⟩ fr H k:=rfl
@[go_sem ↓] theorem rB {x y} :ZA P ⟨d,.load x y,t,ps,af,g⟩ fr H k=Zs P ⟨d,.load x y,t,ps,af,g⟩ fr H k:=rfl
@[go_sem ↓] theorem kT {x y z} :ZA P ⟨d,.store x y z,t,ps,af,g⟩ fr H k=Zs P ⟨d,.store x y z,t,ps,af,g⟩ fr H k:=rfl
@[go_sem ↓] theorem To {x} :ZA P ⟨d,.nilCheck x,t,ps,af,g⟩ fr H k=Zs P ⟨d,.nilCheck x,t,ps,af,g⟩ fr H k:=rfl
@[go_sem ↓] theorem kO {x y z u v} :ZA P ⟨d,.binOp x y z u v,t,ps,af,g⟩ fr H k=Zs P ⟨d,.binOp x y z u v,t,ps,af,g⟩ fr H k:=rfl
@[go_sem ↓] theorem rE {x y z} :ZA P ⟨d,.unOp x y z,t,ps,af,g⟩ fr H k=Zs P ⟨d,.unOp x y z,t,ps,af,g⟩ fr H k:=rfl
@[go_sem ↓] theorem T5 {x y z} :ZA P ⟨d,.convert x y z,t,ps,af,g⟩ fr H k=Zs P ⟨d,.convert x y z,t,ps,af,g⟩ fr H k:=rfl
@[go_sem ↓] theorem Tn {x y z} :ZA P ⟨d,.makeFunc x y z,t,ps,af,g⟩ fr H k=Zs P ⟨d,.makeFunc x y z,t,ps,af,g⟩ fr H k:=rfl
@[go_sem ↓] theorem Rm {x y z} :ZA P ⟨d,.makeSlice x y z,t,ps,af,g⟩ fr H k=Zs P ⟨d,.makeSlice x y z,t,ps,af,g⟩ fr H k:=rfl
@[go_sem ↓] theorem kS {x y z u v} :ZA P ⟨d,.slice x y z u v,t,ps,af,g⟩ fr H k=Zs P ⟨d,.slice x y z u v,t,ps,af,g⟩ fr H k:=rfl
@[go_sem ↓] theorem Rk {x y z} :ZA P ⟨d,.fieldAddr x y z,t,ps,af,g⟩ fr H k=Zs P ⟨d,.fieldAddr x y z,t,ps,af,g⟩ fr H k:=rfl
@[go_sem ↓] theorem kQ {x y z} :ZA P ⟨d,.field x y z,t,ps,af,g⟩ fr H k=Zs P ⟨d,.field x y z,t,ps,af,g⟩ fr H k:=rfl
@[go_sem ↓] theorem Rl {x y z} :ZA P ⟨d,.indexAddr x y z,t,ps,af,g⟩ fr H k=Zs P ⟨d,.indexAddr x y z,t,ps,af,g⟩ fr H k:=rfl
@[go_sem ↓] theorem kR {x y z} :ZA P ⟨d,.index x y z,t,ps,af,g⟩ fr H k=Zs P ⟨d,.index x y z,t,ps,af,g⟩ fr H k:=rfl
@[go_sem ↓] theorem T6 {x y} :ZA P ⟨d,.extract x y,t,ps,af,g⟩ fr H k=Zs P ⟨d,.extract x y,t,ps,af,g⟩ fr H k:=rfl
@[go_sem ↓] theorem rA {x y z} :ZA P ⟨d,.call ⟨.value x,y,z⟩,t,ps,af,g⟩ fr H k=Zs P ⟨d,.call ⟨.value x,y,z⟩,t,ps,af,g⟩ fr H k:=rfl
@[go_sem ↓] theorem tZ {y z} :ZA P ⟨d,.call ⟨.builtin .len,y,z⟩,t,ps,af,g⟩ fr H k=Zs P ⟨d,.call ⟨.builtin .len,y,z⟩,t,ps,af,g⟩ fr H k:=rfl
@[go_sem ↓] theorem uB {y z} :ZA P ⟨d,.call ⟨.builtin .max,y,z⟩,t,ps,af,g⟩ fr H k=Zs P ⟨d,.call ⟨.builtin .max,y,z⟩,t,ps,af,g⟩ fr H k:=rfl
@[go_sem ↓] theorem uC {y z} :ZA P ⟨d,.call ⟨.builtin .min,y,z⟩,t,ps,af,g⟩ fr H k=Zs P ⟨d,.call ⟨.builtin .min,y,z⟩,t,ps,af,g⟩ fr H k:=rfl
def OW (P:Program) (H:List Obj) (t u:TypeId) (x y:V) (k:V->List Obj->Prop):Prop:= ∃S zs,WW P H t u x y=some (.sl H.length 0 zs.length zs.length,H++ [.elems S zs])/\k (.p (.list false zs)) H
@[go_sem ↓] theorem jE {x y u u2} :ZA P ⟨d,.call ⟨.builtin .append,#[x,y],#[u,u2]⟩,t,ps,af,g⟩ fr H k=OW P H u u2 (ev fr x) (ev fr y) (Zu k ⟨⟩):=rfl
def Rh (F:Option (Nat×Nat)) (xs:List PV) (ys:Option (List PV)):Option PV:=match F,ys with
 | some (S,by'),some ys=>if Ap S ys=true/\Ap S xs=true/\(xs= []\/0<ys.length)/\(xs.length+ys.length)*by'<=140737488355328/\xs.length+ys.length<=140737488355328 then some (.list false (xs++ys)) else none
 | _,_=>none
@[go_sem] theorem ZcF {α:Type} {S b} {f:α->PV} {l:List α} {x:PV} (hb:(l.length+1)*b<=140737488355328) (hb2:l.length+1<=140737488355328):Rh (some (S,b)) (l.map f) (some [x])=if Ap S [x]=true/\Ap S (l.map f)=true then some (.list false (l.map f++ [x])) else none:=by
 grind [Rh]
theorem Nn {u u2:TypeId} {F} {xs:List PV} {y:V} (hF:Q1 P u=some F) {tt} :OW P H u u2 (.p (.list true xs)) y (Zu k tt)=AN ((Rh (some F) xs (YO (P.underlying u2) H y)).map .p) (Zu (fun v=>k v H) ⟨⟩):=by
 obtain ⟨S,by'⟩:=F;obtain ⟨e,z,h1,h2,h3,h4,h6⟩:=DU hF;have e1:YO (P.underlying u2) H y=Db P H u2 y:=Zh rfl rfl;rw [e1];unfold OW Zu
 cases h5:Db P H u2 y with
 | none =>
  grind [WW,Rh,AN]
 | some ys =>
  rw [GV h1 h2 h3 h4 h5 h6];simp only [Rh]
  by_cases hc:Ap S ys=true
  ·rw [if_pos hc];simp only [hc,true_and]
   by_cases hd:Ap S xs=true/\(xs= []\/0<ys.length)/\(xs.length+ys.length)*by'<=140737488355328/\xs.length+ys.length<=140737488355328
   ·rw [if_pos hd,if_pos hd];simp only [KV,AN,eq_iff_iff]
    constructor
    ·simp_all
    ·intro hk;exact ⟨S,xs++ys,Zb,hk⟩
   simp_all [if_neg,AN]
  ·simp [hc,AN]
theorem Hf {o fr' H'} (h:fr=fr') (h2:H=H'):ZA P o fr H k=ZA P o fr' H' k:=by rw [h,h2]
end
attribute [congr] Hf
attribute [go_sem] List.filter_cons List.filter_nil
end Go.AM
namespace Go.AM
open Go.RowKit
mutual
/-- no memory in it -/
def Le : PV->Bool
 | .list _ xs=>xs.isEmpty
 | .agg cs=>CY cs
 | _=>true
def CY : List PV->Bool
 | []=>true
 | x::l=>Le x&&CY l
end
theorem KJ : ∀ {l:List PV},CY l=true-> ∀(j:Nat) (x:PV),l[j]? =some x->Le x=true
 | [],_,j,x,h=>by simp at h
 | y::l,hh,j,x,h=>by
  simp [CY] at hh
  cases j with
  | zero=>simp at h;subst h;exact hh.1
  | succ j=>exact KJ hh.2 j x (by simpa using h)
theorem RP.anywhere {X X':Nat->Prop} {w w' x v} (h:RP X w x v) (hf:Le x=true):RP X' w' x v:=by
 induction h with
 | int k n=>exact .int k n
 | bool b=>exact .bool b
 | str s=>exact .str s
 | nilp=>exact .nilp
 | nili=>exact .nili
 | nilf=>exact .nilf
 | nilm=>exact .nilm
 | fn f=>exact .fn f
 | nils cl=>exact .nils cl
 | emp cl a cap hc hm ha=>exact .emp cl a cap hc hm ha
 | list cl xs b off cap S u hX hb hc hm hcl hS hu hr ih =>
  have:xs= []:=by grind [Le]
  subst this;exact .emp cl _ cap (fun h=>by grind) hm (fun _ x hx=>by grind)
 | agg cs a hs _ ih=>exact .agg cs a hs fun j c hj=>ih j c hj (KJ (by grind [Le]) j c hj)
def vw (H:List Obj):V->Option V
 | .p x=>some (.p x)
 | .fn f [] []=>some (.fn f [] [])
 | .sl o off len tot=>match oat H o with
  | .elems _ xs=>if xs.length=tot/\off+len<=tot then some (.p (.list false ((xs.take (off+len)).drop off))) else none
  | _=>none
 | _=>none
def vws (H:List Obj):List V->Option (List V)
 | []=>some []
 | x::l=>match vw H x,vws H l with | some y,some ys=>some (y::ys) | _,_=>none
abbrev JN : Nat->Prop:=fun _=>False
theorem BJ {b:Nat} : ¬Own JN [] b:=by simp [Own]
theorem sP {F H ι w x v y} (hr:Rel F H ι w) (h:RV F H ι w x v) (hy:vw H x=some y):RV JN [] [] w y v:=by
 unfold vw at hy
 split at hy
 ·simp at hy;subst hy
  cases h with | p _ _ h=>exact .p _ _ (h.weaker fun b hb=>absurd hb BJ)
 ·simp at hy;subst hy;generalize v=u at h
  cases h with
  | fn _ _ _ a e hs ht _ _=>exact .fn _ [] [] a e hs ht (fun j c hj=>by simp at hj) (fun j c hj=>by simp at hj)
 ·rename_i o off len tot
  split at hy
  ·rename_i S xs ho
   split at hy
   ·rename_i hc;simp at hy;subst hy;exact .p _ _ (Kp _ (fun b _ hb=>BJ hb) (fun b _ hs=>⟨BJ,hs,rfl⟩) hr (Z3 ho Zb) hc.1 hc.2 h)
   ·cases hy
  ·cases hy
 ·cases hy
theorem Ip {H} : ∀ {l l':List V},vws H l=some l'->l'.length=l.length/\ ∀(j:Nat) (y:V),l'[j]? =some y-> ∃x,l[j]? =some x/\vw H x=some y
 | [],l',h=>by simp [vws] at h;grind
 | x::l,l',h=>by
  simp only [vws] at h
  split at h
  ·rename_i y ys h1 h2;simp at h;subst h;obtain ⟨e,hg⟩:=Ip h2;refine ⟨by simp [e],fun j z hj=> ?_⟩
   cases j with
   | zero=>simp at hj;subst hj;exact ⟨x,Zb,h1⟩
   | succ j=>obtain ⟨q,q1,q2⟩:=hg j z (by simpa using hj);exact ⟨q,by simpa using q1,q2⟩
  ·cases h
theorem Good.lift {F H ι w H1 ι1 w'} (hr:Rel F H ι w) (g:Good JN [] [] w H1 ι1 w') (h1: ∀(o:Nat) (ob:Obj),H1[o]? =some ob-> ∃S xs,ob= .elems S xs/\CY xs=true):Good (Own F ι) [] [] w H1 ι1 w':=by
 have hnew: ∀b,some b∈ι1-> ¬b<w.heap.size:=fun b hb hlt=>g.own b hlt Zb hb
 have hold: ∀b,Own F ι b->b<w.heap.size:=fun b hb=>by
  rcases hb with hb | hb
  ·exact hr.fin b hb
  ·obtain ⟨i,hi⟩:=ZM.1 hb;exact (hr.avo i b hi).2
 refine Good.up hr.env.fresh ⟨⟨g.rel.len,fun b hb=>by have:=hold b hb;have:=g.size;omega,g.rel.inj,fun i b hi=> ?_,fun o cs ho=> ?_,fun o S xs ho=> ?_,fun o es ho=>(by grind),fun o T E r bs ho=>(by grind)⟩,g.os,g.tape,g.output,g.shape,g.size,g.keep,g.own,g.hx⟩
 ·refine ⟨fun hb=>hnew b (Ya hi) (hold b hb),(g.rel.avo i b hi).2⟩
 ·grind
 ·rcases g.rel.elm o S xs ho with e | ⟨b,c,t,cap,e1,e2,e3,e4,e5,e6,e7⟩
  ·exact .inl e
  ·refine .inr ⟨b,c,t,cap,e1,e2,e3,e4,e5,e6,fun i x j y hi hj=> ?_⟩;obtain ⟨S',xs',e,hf⟩:=h1 o _ ho;simp at e;obtain ⟨rfl,rfl⟩:=e;have hx:=KJ hf i x hi;refine (e7 i x j y hi hj).anywhere ?_
   cases x<;>simp only [PV.cells] at hj
   case agg cs=>grind [KJ,Le]
   all_goals (cases j with
    | zero=>simp at hj;subst hj;exact hx
    | succ j=>simp at hj)
theorem BS {w:World} (he:Env JN [] w):Rel JN [] [] w:=⟨⟨rfl,fun b hb=>hb.elim,fun i j b hi=>by simp at hi,fun i b hi=>by simp at hi,fun o cs ho=>by simp at ho,fun o S xs ho=>by simp at ho,fun o es ho=>by simp at ho,fun o T E r bs ho=>by simp at ho⟩,he⟩
theorem ACalls.view {P g args args'} {y:PV} {H:List Obj} {K:V->List Obj->Prop} (h:ACalls P g args' [] fun x H'=>x= .p y/\H'= []) (hv:vws H args=some args') (hy:Le y=true) (k:K (.p y) H):ACalls P g args H K:=by
 refine ⟨h.1,fun F ι w vs hr hvs=> ?_⟩;obtain ⟨e,hg⟩:=Ip hv;refine (h.2 JN [] w vs (BS hr.env.noth) ⟨by rw [hvs.1,e],fun j c hj=> ?_⟩).mono ?_
 ·obtain ⟨x,h1,h2⟩:=hg j c hj;exact sP hr (hvs.2 j x h1) h2
 ·rintro e w' ⟨x,H',ι',v,rfl,⟨rfl,rfl⟩,gd,rv⟩;have g2:=(gd.lift hr (fun o ob ho=>by simp at ho)).behind hr;have hι:ι'= []:=Z7 gd.rel.len;subst hι;simp only [Zo,Qq] at g2
  cases rv with | p _ _ rp =>
  exact ⟨_,H,ι,v,rfl,k,g2,.p _ _ (rp.anywhere hy)⟩
theorem ACalls.viewF {P g args args'} {S n:Nat} {xs:List PV} {H:List Obj} {K:V->List Obj->Prop} (h:ACalls P g args' [] fun x H'=>x= .sl 0 0 n n/\H'= [.elems S xs]) (hv:vws H args=some args') (hy:CY xs=true) (k:K (.sl H.length 0 n n) (H++ [.elems S xs])):ACalls P g args H K:=by
 refine ⟨h.1,fun F ι w vs hr hvs=> ?_⟩;obtain ⟨e,hg⟩:=Ip hv;refine (h.2 JN [] w vs (BS hr.env.noth) ⟨by rw [hvs.1,e],fun j c hj=> ?_⟩).mono ?_
 ·obtain ⟨x,h1,h2⟩:=hg j c hj;exact sP hr (hvs.2 j x h1) h2
 ·rintro e w' ⟨x,H',ι',v,rfl,⟨rfl,rfl⟩,gd,rv⟩
  have gl:=gd.lift hr (fun o ob ho=>by
   grind)
  have g2:=gl.behind hr
  have rv2:RV (Own F ι) [.elems S xs] ι' w' (.sl 0 0 n n) v:=by
   cases rv with
   | slNil _ S a h3 h2=>exact .slNil _ S a h3 h2
   | sl _ _ _ _ b S cap t xs c h1 h2 ht hw hcap hl hlen hm=>exact .sl _ _ _ _ b S cap t xs c h1 h2 ht hw hcap hl hlen hm
   | slD _ _ _ _ _ h1=>simp at h1
   | slS _ _ _ _ _ S xs h1 hne=>exact .slS _ _ _ _ _ S xs h1 hne
   | slC _ _ _ _ _ _ h1=>simp at h1
  exact ⟨_,_,_,v,rfl,by simpa [shV,shO] using k,g2,by simpa [shV] using rv2.sh hr.len⟩
def rd1 (H:List Obj):V->Option PV
 | .p x=>some x
 | .sl o off len tot=>match oat H o with
  | .elems _ xs=>if xs.length=tot/\off+len<=tot then some (.list false ((xs.take (off+len)).drop off)) else none
  | _=>none
 | _=>none
def rds (H:List Obj):List V->Option (List PV)
 | []=>some []
 | x::l=>match rd1 H x,rds H l with | some y,some ys=>some (y::ys) | _,_=>none
def rd (H:List Obj):V->Option PV
 | .agg cs=>(rds H cs).map .agg
 | x=>rd1 H x
theorem gV {F ι H w x v y} (hr:Rel F H ι w) (h:RV F H ι w x v) (hy:rd1 H x=some y):RP (Own F []) w y v:=by
 have hk:Keeps (Own F ι) w (Own F []) w:=fun b hb hs=>⟨fun h=>hb (.inl (by rcases h with h | h;exact h;simp at h)),hs,rfl⟩;unfold rd1 at hy
 split at hy
 ·simp at hy;subst hy
  cases h with | p _ _ h=>exact h.ext hk
 ·rename_i o off len tot
  split at hy
  ·rename_i S xs ho
   split at hy
   ·rename_i hc;simp at hy;subst hy
    exact Kp (Own F []) (fun b hb h=>by
     rcases h with h | h
     ·exact (hr.avo o b hb).1 h
     ·simp at h) hk hr (Z3 ho Zb) hc.1 hc.2 h
   ·cases hy
  ·cases hy
 ·cases hy
theorem Pz {H} : ∀ {l:List V} {l':List PV},rds H l=some l'->l'.length=l.length/\ ∀(j:Nat) (y:PV),l'[j]? =some y-> ∃x,l[j]? =some x/\rd1 H x=some y
 | [],l',h=>by simp [rds] at h;grind
 | x::l,l',h=>by
  simp only [rds] at h
  split at h
  ·rename_i y ys h1 h2;simp at h;subst h;obtain ⟨e,hg⟩:=Pz h2;refine ⟨by simp [e],fun j z hj=> ?_⟩
   cases j with
   | zero=>simp at hj;subst hj;exact ⟨x,Zb,h1⟩
   | succ j=>obtain ⟨q,q1,q2⟩:=hg j z (by simpa using hj);exact ⟨q,by simpa using q1,q2⟩
  ·cases h
theorem ACalls.read {P g args} {y:PV} (h:ACalls P g args [] fun x H'=>rd H' x=some y):ACalls P g args [] fun x H'=>x= .p y/\H'= []:=by
 refine ⟨h.1,fun F ι w vs hr hv=> ?_⟩;have hι:ι= []:=Z7 hr.len;subst hι;refine (h.2 F [] w vs hr hv).mono ?_;rintro e w' ⟨x,H',ι',v,rfl,hy,gd,rv⟩;refine ⟨_,[],[],v,rfl,⟨rfl,rfl⟩,gd.forget hr.env hr.fin,.p _ _ ?_⟩;unfold rd at hy
 split at hy
 ·simp only [Zn] at hy;obtain ⟨ys,h1,rfl⟩:=hy;obtain ⟨e1,hg⟩:=Pz h1
  cases rv with
  | agg _ a hs hq =>
   exact .agg _ a (by rw [hs,e1]) fun j c hj=>by
    obtain ⟨x,q1,q2⟩:=hg j c hj;exact gV gd.rel (hq j x q1) q2
 ·exact gV gd.rel rv hy
@[go_sem] theorem Zje {o off len tot r} :Qd (.sl o off len tot::r)=none:=Zh rfl rfl
attribute [go_sem] Option.map_none
end Go.AM
namespace Go.Proofs.YtiigdaohjanidaaGreatDoor.K
open Go Go.AM
def Ed (be:List (Int×Int)) (a b:Nat):Prop:= ∃p∈be,p.1=(a:Int)/\p.2=(b:Int)
inductive Ch (be:List (Int×Int)):Nat->Nat->Prop where
 | one {a b} (h:Ed be a b):Ch be a b
 | more {a b c} (h:Ch be a b) (k:Ed be b c):Ch be a c
def Val (n:Nat) (be:List (Int×Int)):Prop:= ∀p∈be,0<=p.1/\p.1<n/\0<=p.2/\p.2<n
def De (out:List Nat) (p:Int×Int):List Nat:=out.set p.2.toNat (nth out p.2.toNat|||nth out p.1.toNat|||pw p.1.toNat)
def DA (out:List Nat) (be:List (Int×Int)):List Nat:=be.foldl De out
structure Snd (n:Nat) (be:List (Int×Int)) (out:List Nat):Prop where
 len:out.length=n
 lt: ∀b,b<n->nth out b<pw n
 snd: ∀a b,b<n->(nth out b).testBit a=true->Ch be a b
structure Clo (n:Nat) (be:List (Int×Int)) (out:List Nat):Prop extends Snd n be out where
 cmp: ∀a b,Ch be a b->(nth out b).testBit a=true
theorem Dw (l:List Nat) (i j v:Nat) (h:j<l.length):nth (l.set i v) j=if i=j then v else nth l j:=by
 grind [nth]
theorem Snd.zero (n be):Snd n be (List.replicate n 0):=by
 refine ⟨Zb,fun b hb=> ?_,fun a b hb h=> ?_⟩
 ·grind [Ze,H5]
 grind [Ze]
theorem JC (a b:Nat):(pw a).testBit b=decide (a=b):=by grind [pw]
theorem Snd.step {n be out} (hv:Val n be) (hs:Snd n be out) {p} (hp:p∈be):Snd n be (De out p):=by
 obtain ⟨h1,h2,h3,h4⟩:=hv p hp;refine ⟨by simp [De,hs.len],fun b hb=> ?_,fun a b hb h=> ?_⟩
 ·rw [De,Dw _ _ _ _ (by rw [hs.len];exact hb)]
  split
  ·have e1:=hs.lt p.2.toNat Za;have e2:=hs.lt p.1.toNat Za
   have e3:pw p.1.toNat<pw n:=by
    have:=oC p.1.toNat;have h5:pw (p.1.toNat+1)<=pw n:=C4 Za;omega
   exact Qp (Qp e1 e2) e3
  ·exact hs.lt b hb
 ·rw [De,Dw _ _ _ _ (by rw [hs.len];exact hb)] at h
  split at h
  ·rename_i hb2;have hE:Ed be p.1.toNat b:=⟨p,hp,Za,Za⟩;simp only [KW,Wf] at h;rcases h with (h | h) | h
   ·exact hs.snd a b hb (by grind)
   ·exact (hs.snd a _ Za h).more hE
   ·rw [JC] at h;simp at h;subst h;exact .one hE
  ·exact hs.snd a b hb h
theorem Snd.rnd {n be out} (hv:Val n be) (hs:Snd n be out): ∀(l:List (Int×Int)),(∀p∈l,p∈be)->Snd n be (DA out l):=by
 intro l
 induction l generalizing out with
 | nil=>intro _;exact hs
 | cons p l ih=>intro h;exact ih (hs.step hv (h p Zb)) fun q hq=>h q (by simp [hq])
theorem sC (x y:Nat):x<=x|||y:=Nat.left_le_or
def tot (l:List Nat):Nat:=l.foldr (· + ·) 0
theorem PU : ∀(l:List Nat) (i v:Nat),i<l.length->tot (l.set i v)+nth l i=tot l+v
 | [],i,v,h=>by simp at h
 | x::l,0,v,h=>by simp [tot,nth];omega
 | x::l,i+1,v,h=>by
  have:=PU l i v (by simpa using h);simp only [Xo,tot,List.foldr_cons,nth,List.getD_cons_succ] at this ⊢;omega
theorem iP : ∀(l:List Nat) (m:Nat),(∀i,i<l.length->nth l i<m)->tot l<=l.length*m
 | [],m,h=>by simp [tot]
 | x::l,m,h=>by
  have h0:=h 0 Zb
  have:=iP l m fun i hi=>by have:=h (i+1) (by grind);grind [nth]
  grind [tot,XN,nth]
theorem OO (out:List Nat) (p:Int×Int) (h:p.2.toNat<out.length):tot out<=tot (De out p)/\(tot (De out p)=tot out->De out p=out):=by
 have e:=PU out p.2.toNat (nth out p.2.toNat|||nth out p.1.toNat|||pw p.1.toNat) h;have h1:nth out p.2.toNat<=nth out p.2.toNat|||nth out p.1.toNat|||pw p.1.toNat:=K0 (sC _ _) (sC _ _);refine ⟨by rw [De];omega,fun he=> ?_⟩;rw [De] at he ⊢
 have:nth out p.2.toNat|||nth out p.1.toNat|||pw p.1.toNat=nth out p.2.toNat:=Za
 simp_all [Ze]
theorem NP (out l m):DA out (l++m)=DA (DA out l) m:=by grind [DA]
theorem BK {n be} (hv:Val n be): ∀(l:List (Int×Int)) (out:List Nat),(∀p∈l,p∈be)->Snd n be out->tot out<=tot (DA out l)/\(tot (DA out l)=tot out->DA out l=out/\ ∀p∈l,De out p=out)
 | [],out,_,_=>⟨Xg _,fun _=>⟨rfl,fun p hp=>by simp at hp⟩⟩
 | p::l,out,hl,hs=>by
  obtain ⟨h1,h2,h3,h4⟩:=hv p (hl p Zb);have c:=OO out p (by rw [hs.len];omega);have r:=BK hv l (De out p) (fun q hq=>hl q (by simp [hq])) (hs.step hv (hl p Zb));refine ⟨K0 c.1 r.1,fun e=> ?_⟩;have e:tot (DA (De out p) l)=tot out:=e
  have e1:tot (De out p)=tot out:=Za
  have e2:=c.2 e1
  have e3:tot (DA (De out p) l)=tot (De out p):=Za
  obtain ⟨e4,e5⟩:=r.2 e3;rw [e2] at e4 e5;refine ⟨by grind [DA],fun q hq=> ?_⟩
  grind
theorem Snd.clo {n be out} (hv:Val n be) (hs:Snd n be out) (h:tot (DA out be)=tot out):Clo n be out:=by
 have hc:=((BK hv be out (fun _ h=>h) hs).2 h).2
 have key: ∀p∈be,∀a,(a=p.1.toNat\/(nth out p.1.toNat).testBit a=true)->(nth out p.2.toNat).testBit a=true:=fun p hp a ha=>by
  obtain ⟨h1,h2,h3,h4⟩:=hv p hp;have e:=hc p hp
  have e2:nth (De out p) p.2.toNat=nth out p.2.toNat:=by rw [e]
  rw [De,Dw _ _ _ _ (by rw [hs.len];omega)] at e2;simp only [if_true] at e2;rw [<- e2];simp only [KW,Wf,JC,Zl]
  grind
 refine ⟨hs,fun a b hab=> ?_⟩
 induction hab with
 | one h =>
  obtain ⟨p,hp,e1,e2⟩:=h;have:=key p hp p.1.toNat (.inl rfl)
  grind
 | more _ h ih =>
  obtain ⟨p,hp,e1,e2⟩:=h;have:=key p hp _ (.inr (by rw [e1];exact ih))
  grind
theorem Clo.uniq {n be out out'} (hv:Val n be) (h:Clo n be out) (h':Clo n be out'):out=out':=by
 apply U1 (by rw [h.len,h'.len]);intro b h1 h2;rw [<- Ze h1,<- Ze h2];apply Bw;intro a;rw [YY];rw [h.len] at h1;exact ⟨fun e=>h'.cmp a b (h.snd a b h1 e),fun e=>h.cmp a b (h'.snd a b h1 e)⟩
theorem Snd.bound {n be out} (hs:Snd n be out):tot out<=n*pw n:=by
 have:=iP out (pw n) fun i hi=>hs.lt i (by rw [<- hs.len];exact hi);rwa [hs.len] at this
theorem aW {n be} (hv:Val n be): ∀(k:Nat) (out:List Nat),Snd n be out->n*pw n-tot out<k-> ∃out',Clo n be out'
 | 0,out,_,h=>Za
 | k+1,out,hs,h=>by
  by_cases he:tot (DA out be)=tot out
  ·exact ⟨out,hs.clo hv he⟩
  ·have hp:=hs.rnd hv be fun _ h=>h;have:=hp.bound;have:=(BK hv be out (fun _ h=>h) hs).1;exact aW hv k (DA out be) hp Za
noncomputable def JE (n:Nat) (be:List (Int×Int)):List Nat:=open Classical in if h: ∃out,Clo n be out then h.choose else []
theorem D5 {n be} (hv:Val n be):Clo n be (JE n be):=by
 have h:=aW hv _ (List.replicate n 0) (Snd.zero n be) (Nat.lt_succ_self _);rw [JE,dif_pos h]
 grind
theorem aV {n be out} (hv:Val n be) (h:Clo n be out):JE n be=out:=(D5 hv).uniq hv h
theorem Uc {n be} (hv:Val n be) (a b:Nat) (hb:b<n):(nth (JE n be) b).testBit a=true↔Ch be a b :=
 ⟨(D5 hv).snd a b hb,(D5 hv).cmp a b⟩
end Go.Proofs.YtiigdaohjanidaaGreatDoor.K
