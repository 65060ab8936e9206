/- Declarations that the closing texts need, part 5: joined by tools/slim.py. -/
import Derived.Test.YtmbelkfkhclnkaaGreatDoorZS4
set_option linter.unusedVariables false
set_option linter.unusedSimpArgs false
universe u
namespace Go.AM
open Go.RowKit
structure Tk {α:Sort u} (a:α):Type where
def Zp {α:Sort u} (a:α) (_:Tk a):α:=a
@[go_sem] theorem cP {α β:Type} {f:α->β} {t x} :Zp f t x=f x:=Eq.trans rfl rfl
@[go_sem ↓] theorem cQ {α β:Type} {f:α->β->Prop} {t x y} :Zp f t x y=f x y:=Eq.trans rfl rfl
@[go_sem ↓] theorem cR {α β γ:Type} {f:α->β->γ->Prop} {t x y z} :Zp f t x y z=f x y z:=Eq.trans rfl rfl
def KD (x:Option V) (K:V->Prop):Prop:=match x with | some v=>K v | none=>False
def Q7 (x:Option (V×List Obj)) (K:V->List Obj->Prop):Prop:=match x with | some (v,H)=>K v H | none=>False
def bst (x:V) (K:Bool->Prop):Prop:=match x with | .p (.bool b)=>K b | _=>False
def hst (x:Option (List Obj)) (K:List Obj->Prop):Prop:=match x with | some H=>K H | none=>False
@[go_sem ↓, go_sem] theorem oC {v K} :KD (some v) K=K v:=Eq.trans rfl rfl
@[go_sem ↓, go_sem] theorem nM {v H K} :Q7 (some (v,H)) K=K v H:=Eq.trans rfl rfl
@[go_sem ↓, go_sem] theorem kR {H K} :hst (some H) K=K H:=Eq.trans rfl rfl
@[congr] theorem dD {x x' K} (h:x=x'):KD x K=KD x' K:=by rw [h]
@[congr] theorem cY {x x' K} (h:x=x'):Q7 x K=Q7 x' K:=by rw [h]
@[congr] theorem cS {x x' K} (h:x=x'):hst x K=hst x' K:=by rw [h]
def Fa (fr:List V):List V:=fr
@[go_sem] theorem vB {fr} :Fa fr=fr:=Eq.trans rfl rfl
section code
variable {cuts : List Nat} {P : Program} {fr : List V} {H : List Obj} {Q : Exit -> List V -> List Obj -> Prop}
@[go_sem ↓] theorem cG : WV cuts P .skip fr H Q=Q .normal fr H:=Eq.trans rfl rfl
@[go_sem ↓] theorem OP {id} {l:List Oper} :WV cuts P (.region id l.toArray false) fr H Q=Xm P (l.map (·.dst)) l (Fa fr) H (Zp (Q .normal) ⟨⟩):=by rfl
@[go_sem ↓] theorem P0 {id ops} :WV cuts P (.region id ops true) fr H Q=AWP P (.region id (Zp ops ⟨⟩) true) fr H (Zp Q ⟨⟩):=by rfl
@[go_sem ↓] theorem jC {x y} :WV [] P (.seq x y) fr H Q=WV [] P x fr H (WO (fun fr H=>WV [] P y fr H Q) Q):=by
 grind [WV]
def LZ (b:Bool) (A B:Prop):Prop:=if b then A else B
def B4 (cuts:List Nat):Option Nat->Bool
 | some i=>cuts.contains i
 | none=>false
@[go_sem ↓] theorem cF {k x y} :WV (k::cuts) P (.seq x y) fr H Q=LZ (B4 (k::cuts) (Cj x)) (Zp (AWP P (.seq (Zp x ⟨⟩) (Zp y ⟨⟩)) fr H (Zp Q ⟨⟩)) ⟨⟩) (Zp (WV (k::cuts) P x fr H (WO (fun fr H=>WV (k::cuts) P y fr H Q) Q)) ⟨⟩):=by
 rfl
@[go_sem ↓, go_sem] theorem dF {A B:Prop} {t} :LZ true (Zp A t) B=A:=by rfl
@[go_sem ↓, go_sem] theorem TY {A B:Prop} {t} :LZ false A (Zp B t)=B:=by rfl
theorem Ek {b b' A B} (h:b=b'):LZ b A B=LZ b' A B:=by rw [h]
@[go_sem ↓] theorem RF {id ops d} :Cj (.region id ops d)=some id:=Eq.trans rfl rfl
@[go_sem ↓] theorem rU {x y} :Cj (.seq x y)=Cj x:=Eq.trans rfl rfl
@[go_sem ↓] theorem cO {id c} :Cj (.block id c)=Cj c:=Eq.trans rfl rfl
@[go_sem ↓] theorem kN {c x y} :Cj (.cond c x y)=none:=Eq.trans rfl rfl
@[go_sem ↓] theorem kP {c} :Cj (.loop c)=none:=Eq.trans rfl rfl
@[go_sem] theorem Rq : B4 cuts none=false:=Eq.trans rfl rfl
@[go_sem] theorem cL {i} :B4 [] (some i)=false:=Eq.trans rfl rfl
@[go_sem] theorem Rp {k i} :B4 (k::cuts) (some i)=(decide (i=k)||B4 cuts (some i)):=by rfl
@[go_sem ↓] theorem cA {c x y} :WV cuts P (.cond c x y) fr H Q=YB (ev fr c) (Zp (WV cuts P x fr H Q) ⟨⟩) (Zp (WV cuts P y fr H Q) ⟨⟩):=Eq.trans rfl rfl
@[go_sem ↓] theorem PZ {id c} :WV cuts P (.block id c) fr H Q=WV cuts P c fr H (Wr id Q):=Eq.trans rfl rfl
@[go_sem ↓] theorem cB {id} :WV cuts P (.exit id) fr H Q=Q (.exit id) fr H:=Eq.trans rfl rfl
@[go_sem ↓] theorem jB : WV cuts P .ret fr H Q=Q .ret fr H:=Eq.trans rfl rfl
@[go_sem ↓] theorem cE {c} :WV cuts P (.loop c) fr H Q=AWP P (.loop (Zp c ⟨⟩)) fr H (Zp Q ⟨⟩):=Eq.trans rfl rfl
@[go_sem ↓] theorem cC {c t} :WV cuts P (Zp c t) fr H Q=WV cuts P c fr H Q:=Eq.trans rfl rfl
theorem F8 {c fr' H'} (h:fr=fr') (h2:H=H'):WV cuts P c fr H Q=WV cuts P c fr' H' Q:=by rw [h,h2]
theorem FP {c fr' H'} (h:fr=fr') (h2:H=H'):AWP P c fr H Q=AWP P c fr' H' Q:=by rw [h,h2]
@[go_sem ↓] theorem Og {A:List V->List Obj->Prop} :WO A Q .normal fr H=A fr H:=Eq.trans rfl rfl
@[go_sem ↓] theorem T7 {A:List V->List Obj->Prop} {id} :WO A Q (.exit id) fr H=Q (.exit id) fr H:=Eq.trans rfl rfl
@[go_sem ↓] theorem fR {A:List V->List Obj->Prop} :WO A Q .ret fr H=Q .ret fr H:=Eq.trans rfl rfl
@[go_sem ↓] theorem Mo {id} :Wr id Q .normal fr H=Q .normal fr H:=Eq.trans rfl rfl
@[go_sem ↓] theorem P4 {id} :Wr id Q .ret fr H=Q .ret fr H:=Eq.trans rfl rfl
@[go_sem ↓] theorem OR {id id'} :Wr id Q (.exit id') fr H=if id'=id then Q .normal fr H else Q (.exit id') fr H:=Eq.trans rfl rfl
theorem C4 {A:List V->List Obj->Prop} {e fr' H'} (h:fr=fr') (h2:H=H'):WO A Q e fr H=WO A Q e fr' H':=by rw [h,h2]
theorem AO {id e fr' H'} (h:fr=fr') (h2:H=H'):Wr id Q e fr H=Wr id Q e fr' H':=by rw [h,h2]
@[go_sem ↓] theorem Pb {rs} {Q:V->List Obj->Prop} :UA P rs Q .normal fr H=Q7 ((Xx P fr H rs).map fun xs=>(Wx xs,H)) (Zp Q ⟨⟩):=by
 simp only [UA,Zp];grind [Q7]
@[go_sem ↓] theorem oG {rs} {Q:V->List Obj->Prop} :UA P rs Q .ret fr H=Q7 ((Xx P fr H rs).map fun xs=>(Wx xs,H)) (Zp Q ⟨⟩):=by
 simp only [UA,Zp];grind [Q7]
theorem Ee {rs e fr' H'} {Q:V->List Obj->Prop} (h:fr=fr') (h2:H=H'):UA P rs Q e fr H=UA P rs Q e fr' H':=by rw [h,h2]
@[go_sem] theorem TS : Xx P fr H []=some []:=Eq.trans rfl rfl
@[go_sem] theorem TT {t l} :Xx P fr H (.tmp t::l)=(Xx P fr H l).map (gt fr t:: ·):=by
 simp only [Xx,GT];cases Xx P fr H l<;>rfl
@[go_sem] theorem O9 {a t l} :Xx P fr H (.cell a t::l)=(UL P H t (gt fr a)).bind fun x=>(Xx P fr H l).map (x:: ·):=by
 simp only [Xx,GT];cases UL P H t (gt fr a)<;>cases Xx P fr H l<;>rfl
@[go_sem] theorem TU {x} :Wx [x]=x:=Eq.trans rfl rfl
@[go_sem] theorem Pa : Wx []= .tup []:=Eq.trans rfl rfl
@[go_sem] theorem Ed {x y l} :Wx (x::y::l)= .tup (x::y::l):=Eq.trans rfl rfl
end code
attribute [congr] Ek F8 FP C4 AO Ee
@[go_sem] theorem rT {x:V} {l} :gt (x::l) 0=x:=Eq.trans rfl rfl
@[go_sem] theorem rS {x:V} {l n} :gt (x::l) (n+1)=gt l n:=Eq.trans rfl rfl
@[go_sem] theorem uZ {n} :gt [] n= .junk:=Eq.trans rfl rfl
@[go_sem] theorem sK {x v:V} {l} :pt (x::l) 0 v=v::l:=Eq.trans rfl rfl
@[go_sem] theorem sJ {x v:V} {l n} :pt (x::l) (n+1) v=x::pt l n v:=Eq.trans rfl rfl
@[go_sem] theorem oE {fr d v} :W0 fr (some d) v=pt fr d v:=Eq.trans rfl rfl
@[go_sem] theorem oD {fr v} :W0 fr none v=fr:=Eq.trans rfl rfl
@[go_sem] theorem nQ {x:Obj} {l} :oat (x::l) 0=x:=Eq.trans rfl rfl
@[go_sem] theorem nP {x:Obj} {l n} :oat (x::l) (n+1)=oat l n:=Eq.trans rfl rfl
@[go_sem] theorem nY {x v:Obj} {l} :J6 (x::l) 0 v=v::l:=Eq.trans rfl rfl
@[go_sem] theorem nX {x v:Obj} {l n} :J6 (x::l) (n+1) v=x::J6 l n v:=Eq.trans rfl rfl
@[go_sem] theorem rI {fr t} :evx fr (.tmp t)=gt fr t:=Eq.trans rfl rfl
@[go_sem] theorem uP {fr t} :ev fr (.tmp t)=gt fr t:=Eq.trans rfl rfl
@[go_sem] theorem rG {fr f} :ev fr (.func f)= .fn (.func f) [] []:=Eq.trans rfl rfl
@[go_sem] theorem uN {fr k n} :ev fr (.const (.int k n))= .p (.int k n):=Eq.trans rfl rfl
@[go_sem] theorem rF {fr b} :ev fr (.const (.bool b))= .p (.bool b):=Eq.trans rfl rfl
@[go_sem] theorem uO {fr s} :ev fr (.const (.string s))= .p (.str s.data.toList):=Eq.trans rfl rfl
@[go_sem] theorem rH {fr} :ev fr (.const (.slice none 0 0))= .p (.list true []):=Eq.trans rfl rfl
@[go_sem] theorem uM {fr l} :ev fr (.const (.agg (List.toArray l)))=match Rs l with | some xs=> .p (.agg xs) | none=> .junk:=Eq.trans rfl rfl
@[go_sem] theorem kH {fr d} {l:List (Option Nat)} :KC fr (some d::l) 0=gt fr d:=by simp [KC]
@[go_sem] theorem kG {fr o n} {l:List (Option Nat)} :KC fr (o::l) (n+1)=KC fr l n:=by simp [KC]
section ops
variable {P : Program} {fr : List V} {H : List Obj} {ds : List (Option Nat)} {K : List V -> List Obj -> Prop} {r : List Oper} {d : Option Nat} {t : TypeId} {ps : String} {af : Array Edge} {g : Option (Nat × Bool)} {k : V -> List Obj -> Prop}
theorem Dp {l fr' H'} (h:fr=fr') (h2:H=H'):Xm P ds l fr H K=Xm P ds l fr' H' K:=by rw [h,h2]
theorem BR {o fr' H'} (h:fr=fr') (h2:H=H'):Zo P o fr H k=Zo P o fr' H' k:=by rw [h,h2]
@[go_sem ↓] theorem iS : Xm P ds [] fr H K=K fr H:=Eq.trans rfl rfl
@[go_sem] theorem bK {op} :Xm P ds (⟨d,op,t,ps,af,none⟩::r) fr H K=Zo P ⟨d,op,t,ps,af,none⟩ fr H (Zp (fun x H'=>Xm P ds r (W0 fr d x) H' K) ⟨⟩):=Eq.trans rfl rfl
@[go_sem] theorem Pu {op j b} :Xm P ds (⟨d,op,t,ps,af,some (j,b)⟩::r) fr H K=ZT (KC fr ds j) b (Zp (Zo P ⟨d,op,t,ps,af,none⟩ fr H (Zp (fun x H'=>Xm P ds r (W0 fr d x) H' K) ⟨⟩)) ⟨⟩) (Zp (Xm P ds r (W0 fr d (.tup [])) H K) ⟨⟩):=by
 rfl
theorem ZU {op:Op} (h:X6 op=none) (h2:Yg P op fr H=none):Zo P ⟨d,op,t,ps,af,g⟩ fr H k=KD (ZG P op fr H) fun x=>k x H:=by
 simp only [Zo,h,FW,h2]
 all_goals (cases ZG P op fr H<;>rfl)
theorem F4 {op:Op} (h:X6 op=none) (h2:ZG P op fr H=none):Zo P ⟨d,op,t,ps,af,g⟩ fr H k=Q7 (Yg P op fr H) k:=by
 grind [Zo,FW,Q7]
@[go_sem ↓] theorem PS {x} :Zo P ⟨d,.move x,t,ps,af,g⟩ fr H k=k (ev fr x) H:=by rfl
@[go_sem ↓] theorem MO {x} :Zo P ⟨d,.assign x,t,ps,af,g⟩ fr H k=k (ev fr x) H:=by rfl
def tS (b:Bool) (x y:V):V:=if b then x else y
@[go_sem] theorem pP {x y} :tS true x y=x:=Eq.trans rfl rfl
@[go_sem] theorem fS {x y} :tS false x y=y:=Eq.trans rfl rfl
@[go_sem] theorem pO {b x y} :tS b (.p (.bool x)) (.p (.bool y))= .p (.bool (if b then x else y)):=by cases b<;>rfl
@[go_sem] theorem iW {b} :PF (.p (.bool b))=some b:=Eq.trans rfl rfl
@[go_sem ↓] theorem PW {c x y} :Zo P ⟨d,.pick c x y,t,ps,af,g⟩ fr H k=KD ((PF (ev fr c)).map fun b=>tS b (ev fr x) (ev fr y)) (Zp (fun v=>k v H) ⟨⟩):=by
 rw [ZU rfl rfl];simp only [ZG,Xc]
 cases PF (ev fr c)<;>rfl
@[go_sem ↓] theorem PQ {u x} :Zo P ⟨d,.load u x,t,ps,af,g⟩ fr H k=KD (UL P H u (ev fr x)) (Zp (fun v=>k v H) ⟨⟩):=by rw [ZU rfl rfl];rfl
@[go_sem ↓] theorem bS {op u x y u2} :Zo P ⟨d,.binOp op u x y u2,t,ps,af,g⟩ fr H k=KD ((Xf P op u (ev fr x) (ev fr y)).map .p) (Zp (fun v=>k v H) ⟨⟩):=by rw [ZU rfl rfl];rfl
@[go_sem ↓] theorem iZ {op u x} :Zo P ⟨d,.unOp op u x,t,ps,af,g⟩ fr H k=KD ((bZ op (ev fr x)).map .p) (Zp (fun v=>k v H) ⟨⟩):=by rw [ZU rfl rfl];rfl
def I9 (x y:Option PV):Option PV:=match x with | some z=>some z | none=>y
@[go_sem] theorem TC {z y} :I9 (some z) y=some z:=Eq.trans rfl rfl
@[go_sem] theorem TB {y} :I9 none y=y:=Eq.trans rfl rfl
@[go_sem ↓] theorem PP {s u x} :Zo P ⟨d,.convert s u x,t,ps,af,g⟩ fr H k=KD ((I9 (Qs P H s u (ev fr x)) (BC P s u (ev fr x))).map .p) (Zp (fun v=>k v H) ⟨⟩):=by
 rw [ZU rfl rfl];simp only [ZG,Xc]
 cases Qs P H s u (ev fr x)<;>rfl
@[go_sem ↓] theorem HA {f cs es} :Zo P ⟨d,.makeFunc f (List.toArray cs) (List.toArray es),t,ps,af,g⟩ fr H k=k (.fn f (cs.map (ev fr)) (es.map (ev fr))) H:=by rfl
@[go_sem ↓] theorem ON {u x lo hi mx} :Zo P ⟨d,.slice u x lo hi mx,t,ps,af,g⟩ fr H k=KD (XB P H u fr (ev fr x) lo hi mx) (Zp (fun v=>k v H) ⟨⟩):=by rw [ZU rfl rfl];rfl
@[go_sem ↓] theorem G9 {s x f} :Zo P ⟨d,.fieldAddr s x f,t,ps,af,g⟩ fr H k=KD (Jp P H s f (ev fr x)) (Zp (fun v=>k v H) ⟨⟩):=by rw [ZU rfl rfl];rfl
@[go_sem ↓] theorem Ha {u x i} :Zo P ⟨d,.indexAddr u x i,t,ps,af,g⟩ fr H k=KD (Jr P H u (evx fr x) (ev fr i)) (Zp (fun v=>k v H) ⟨⟩):=by rw [ZU rfl rfl];rfl
@[go_sem ↓] theorem OM {u x i} :Zo P ⟨d,.index u x i,t,ps,af,g⟩ fr H k=KD (BH P u (ev fr x) (ev fr i)) (Zp (fun v=>k v H) ⟨⟩):=by rw [ZU rfl rfl];rfl
def yU (x:V) (i:Nat):Option V:=match x with | .tup vs=>vs[i]? | _=>none
@[go_sem] theorem qS {vs i} :yU (.tup vs) i=vs[i]? :=Eq.trans rfl rfl
@[go_sem ↓] theorem Mm {x i} :Zo P ⟨d,.extract x i,t,ps,af,g⟩ fr H k=KD (yU (ev fr x) i) (Zp (fun v=>k v H) ⟨⟩):=by
 rw [ZU rfl rfl]
 rfl
@[go_sem ↓] theorem OL {u l} :Zo P ⟨d,.build u (List.toArray l),t,ps,af,g⟩ fr H k=KD (Jn P H u (l.map fun x=>(x.1,ev fr x.2))) (Zp (fun v=>k v H) ⟨⟩):=by rw [ZU rfl rfl];rfl
@[go_sem ↓] theorem bV {x u} :Zo P ⟨d,.call ⟨.builtin .len,#[x],#[u]⟩,t,ps,af,g⟩ fr H k=KD ((Hp P H u (ev fr x)).map .p) (Zp (fun v=>k v H) ⟨⟩):=by rw [ZU rfl rfl];rfl
@[go_sem ↓] theorem bW {x y us} :Zo P ⟨d,.call ⟨.builtin .max,#[x,y],us⟩,t,ps,af,g⟩ fr H k=KD ((Dm false [ev fr x,ev fr y]).map .p) (Zp (fun v=>k v H) ⟨⟩):=by
 rw [ZU rfl rfl];rfl
@[go_sem ↓] theorem OK {u} :Zo P ⟨d,.alloc u,t,ps,af,g⟩ fr H k=Q7 ((ZW P u).map fun zs=>(.ptr H.length 0,H++ [.cells (zs.map .p)])) (Zp k ⟨⟩):=by rfl
@[go_sem ↓] theorem bT {u x} :Zo P ⟨d,.box u x,t,ps,af,g⟩ fr H k=Q7 ((vc H (ev fr x)).map fun cs=>(.ptr H.length 0,H++ [.cells cs])) (Zp k ⟨⟩):=by rfl
def PY (H:List Obj) (n:Option Nat) (a:V) (cs:Option (List V)):Option (List Obj):=n.bind fun n=>cs.bind fun cs=>Ut H n a cs
@[go_sem] theorem bY {n a cs} :PY H (some n) a (some cs)=Ut H n a cs:=Eq.trans rfl rfl
@[go_sem ↓] theorem OO {u x y} :Zo P ⟨d,.store u x y,t,ps,af,g⟩ fr H k=hst (PY H (XA P u) (ev fr x) (vc H (ev fr y))) (Zp (k .junk) ⟨⟩):=by
 rw [F4 rfl rfl];simp only [Yg,PY]
 cases XA P u<;>cases vc H (ev fr y)<;>simp [hst,Q7,Zp]
 grind
@[go_sem ↓] theorem F3 {u n l} :Zo P ⟨d,.buildSlice u n (List.toArray l),t,ps,af,g⟩ fr H k=Q7 (Yg P (.buildSlice u n (List.toArray l)) fr H) (Zp k ⟨⟩):=by rfl
@[go_sem ↓] theorem Mn {u} :Zo P ⟨d,.makeMap u none,t,ps,af,g⟩ fr H k=k (.mp H.length) (H++ [.map []]):=by rfl
@[go_sem ↓] theorem MP {u x y ok} :Zo P ⟨d,.lookup u x y ok,t,ps,af,g⟩ fr H k=Q7 (KP P H u (ev fr x) (ev fr y) ok) (Zp k ⟨⟩):=by rfl
@[go_sem ↓] theorem PU {u x y z} :Zo P ⟨d,.mapUpdate u x y z,t,ps,af,g⟩ fr H k=Q7 (KQ P H u (ev fr x) (ev fr y) (ev fr z)) (Zp k ⟨⟩):=by rfl
@[go_sem ↓] theorem Hb {u x y} :Zo P ⟨d,.makeSlice u x y,t,ps,af,g⟩ fr H k=Q7 (Yg P (.makeSlice u x y) fr H) (Zp k ⟨⟩):=by rfl
@[go_sem ↓] theorem MN {x y u u2} :Zo P ⟨d,.call ⟨.builtin .append,#[x,y],#[u,u2]⟩,t,ps,af,g⟩ fr H k=Q7 (YH P H u u2 (ev fr x) (ev fr y)) (Zp k ⟨⟩):=by rfl
@[go_sem ↓] theorem PO {f azs ts} :Zo P ⟨d,.call ⟨.value f,List.toArray azs,ts⟩,t,ps,af,g⟩ fr H k=QS P (ev fr f) (azs.map (ev fr)) H (Zp k ⟨⟩):=Eq.trans rfl rfl
@[go_sem ↓] theorem iH {f fs cs azs} :QS P (.fn (.func f) fs cs) azs H k=ACalls P f (fs++azs++cs) H k:=Eq.trans rfl rfl
@[go_sem ↓] theorem aP {f azs} :QS P (.p (.fn f)) azs H k=ACalls P f azs H k:=Eq.trans rfl rfl
theorem BA {f f' azs as'} (h:f=f') (h2:azs=as'):QS P f azs H k=QS P f' as' H k:=by rw [h,h2]
theorem AB {f azs as' H'} (h2:azs=as') (h3:H=H'):ACalls P f azs H k=ACalls P f as' H' k:=by rw [h2,h3]
theorem BB {x x' A B} (h:x=x'):YB x A B=YB x' A B:=by rw [h]
theorem AE {x x' b A B} (h:x=x'):ZT x b A B=ZT x' b A B:=by rw [h]
@[go_sem ↓, go_sem] theorem Pi {A:Prop} {t B'} :YB (.p (.bool true)) (Zp A t) B'=A:=by simp [YB,Zp]
@[go_sem ↓, go_sem] theorem Oz {B:Prop} {t B'} :YB (.p (.bool false)) B' (Zp B t)=B:=by simp [YB,Zp]
@[go_sem ↓, go_sem] theorem aZ {A:Prop} {t B} :ZT (.p (.bool true)) true (Zp A t) B=A:=by simp [ZT,Zp]
@[go_sem ↓, go_sem] theorem aY {B:Prop} {t A} :ZT (.p (.bool true)) false A (Zp B t)=B:=by simp [ZT,Zp]
@[go_sem ↓, go_sem] theorem aX {B:Prop} {t A} :ZT (.p (.bool false)) true A (Zp B t)=B:=by simp [ZT,Zp]
@[go_sem ↓, go_sem] theorem aW {A:Prop} {t B} :ZT (.p (.bool false)) false (Zp A t) B=A:=by simp [ZT,Zp]
@[go_sem ↓, go_sem] theorem OB {b} {B:Prop} {t A} :ZT (.tup []) b A (Zp B t)=B:=by rfl
theorem WS {c:Bool} {A B:Prop} {t t'} (h1:c=true->A) (h2:c=false->B):YB (.p (.bool c)) (Zp A t) (Zp B t'):=⟨h1,h2⟩
theorem Yq {c:Bool} {A B:Prop} {t t'} (h1:c=true->A) (h2:c=false->B):ZT (.p (.bool c)) true (Zp A t) (Zp B t'):=⟨h1,fun h=>h2 (by simpa using h)⟩
theorem YZ {c:Bool} {A B:Prop} {t t'} (h1:c=true->B) (h2:c=false->A):ZT (.p (.bool c)) false (Zp A t) (Zp B t'):=⟨h2,fun h=>h1 (by simpa using h)⟩
theorem Zf {P Q:Prop} (h:Q) (e:Q->P:=by intro h;simp (disch:=omega) only [go_sem,seval];exact h):P:=e h
class Dc (c:Bool) (p q:outParam Prop):Prop where
 t:c=true->p
 f:c=false->q
instance dcD {p : Prop} [Decidable p] : Dc (decide p) p (¬p) := ⟨of_decide_eq_true, of_decide_eq_false⟩
instance (priority := low) dcB {c : Bool} : Dc c (c = true) (c = false) := ⟨id, id⟩
theorem cD {c:Bool} {A B p q:Prop} {t t'} [d:Dc c p q] (h1:p->A) (h2:q->B):YB (.p (.bool c)) (Zp A t) (Zp B t'):=WS (fun h=>h1 (d.t h)) (fun h=>h2 (d.f h))
theorem gT {c:Bool} {A B p q:Prop} {t t'} [d:Dc c p q] (h1:p->A) (h2:q->B):ZT (.p (.bool c)) true (Zp A t) (Zp B t'):=Yq (fun h=>h1 (d.t h)) (fun h=>h2 (d.f h))
theorem gF {c:Bool} {A B p q:Prop} {t t'} [d:Dc c p q] (h1:p->B) (h2:q->A):ZT (.p (.bool c)) false (Zp A t) (Zp B t'):=YZ (fun h=>h1 (d.t h)) (fun h=>h2 (d.f h))
@[go_sem] theorem sF {p:Prop} [Decidable p]:(!decide p)=decide (¬p):=Zb
end ops
attribute [congr] Dp BR BA AB BB AE
section vals
variable {P : Program} {H : List Obj} {k : IntKind} {t u : TypeId}
@[go_sem] theorem gX {a b} :Xf P .add t (.p (.int k a)) (.p (.int k b))=some (.int k (k.wrap (a+b))):=by simp [Xf,Wt]
@[go_sem] theorem iG {a b} :Xf P .sub t (.p (.int k a)) (.p (.int k b))=some (.int k (k.wrap (a-b))):=by simp [Xf,Wt]
@[go_sem] theorem iB {a b} :Xf P .mul t (.p (.int k a)) (.p (.int k b))=some (.int k (k.wrap (a*b))):=by simp [Xf,Wt]
@[go_sem] theorem iD {a b} (h:b≠0):Xf P .quo t (.p (.int k a)) (.p (.int k b))=some (.int k (k.wrap (a.tdiv b))):=by simp [Xf,Wt,h]
@[go_sem] theorem iE {a b} (h:b≠0):Xf P .rem t (.p (.int k a)) (.p (.int k b))=some (.int k (a.tmod b)):=by simp [Xf,Wt,h]
@[go_sem] theorem gZ {a b} :Xf P .and t (.p (.int k a)) (.p (.int k b))=some (.int k (k.wrap ((BitVec.ofInt k.bits a&&&BitVec.ofInt k.bits b).toNat:Int))):=by simp [Xf,Wt]
@[go_sem] theorem EC {a b} :Xf P .or t (.p (.int k a)) (.p (.int k b))=some (.int k (k.wrap ((BitVec.ofInt k.bits a|||BitVec.ofInt k.bits b).toNat:Int))):=by simp [Xf,Wt]
@[go_sem] theorem Ox {a b} :Xf P .andNot t (.p (.int k a)) (.p (.int k b))=some (.int k (k.wrap ((BitVec.ofInt k.bits a&&& ~~~(BitVec.ofInt k.bits b)).toNat:Int))):=by simp [Xf,Wt]
@[go_sem] theorem hC {a b} :Xf P .eql t (.p (.int k a)) (.p (.int k b))=some (.bool (decide (a=b))):=by simp [Xf,Wt]
@[go_sem] theorem iC {a b} :Xf P .neq t (.p (.int k a)) (.p (.int k b))=some (.bool (decide (¬a=b))):=by simp [Xf,Wt]
@[go_sem] theorem iA {a b} :Xf P .lss t (.p (.int k a)) (.p (.int k b))=some (.bool (decide (a<b))):=by simp [Xf,Wt]
@[go_sem] theorem hQ {a b} :Xf P .leq t (.p (.int k a)) (.p (.int k b))=some (.bool (decide (a<=b))):=by simp [Xf,Wt]
@[go_sem] theorem hP {a b} :Xf P .gtr t (.p (.int k a)) (.p (.int k b))=some (.bool (decide (b<a))):=by simp [Xf,Wt]
@[go_sem] theorem hJ {a b} :Xf P .geq t (.p (.int k a)) (.p (.int k b))=some (.bool (decide (b<=a))):=by simp [Xf,Wt]
@[go_sem] theorem Hh {a b k'} (h:0<=b):Xf P .shl t (.p (.int k a)) (.p (.int k' b))=some (.int k (k.wrap (a*2^(min b.toNat k.bits)))):=by grind [Xf,Wt]
@[go_sem] theorem Hi {a b k'} (h:0<=b):Xf P .shr t (.p (.int k a)) (.p (.int k' b))=some (.int k (a.fdiv (2^(min b.toNat k.bits)))):=by grind [Xf,Wt]
@[go_sem] theorem iF {op a b} :Xf P op t (.p (.str a)) (.p (.str b))=Bm op a b:=Eq.trans rfl rfl
@[go_sem] theorem oJ {a b} :Bm .eql a b=some (.bool (decide (a=b))):=Eq.trans rfl rfl
@[go_sem] theorem oK {a b} :Bm .neq a b=some (.bool (decide (¬a=b))):=by simp [Bm]
@[go_sem] theorem Qh {a b} (h:a.length+b.length<=9223372036854775807):Bm .add a b=some (.str (a++b)):=by simp [Bm,h]
def P3 (op:BinOp) (u:Option TypeDesc) (a b:Bool):Option PV:=match op,u with
  | .eql,some .bool=>some (.bool (a==b))
  | .neq,some .bool=>some (.bool (!(a==b)))
  | _,_=>none
end vals
attribute [irreducible] KD Q7 hst bst
end Go.AM
namespace Go.AM
open Go.RowKit
section vals
variable {P : Program} {H : List Obj} {k : IntKind} {t u : TypeId}
@[go_sem] theorem aK {op a b} :Xf P op t (.p (.bool a)) (.p (.bool b))=P3 op (P.underlying t) a b:=Eq.trans rfl rfl
@[go_sem] theorem jD {a b} :P3 .eql (some .bool) a b=some (.bool (a==b)):=Eq.trans rfl rfl
@[go_sem] theorem jE {a b} :P3 .neq (some .bool) a b=some (.bool (!(a==b))):=Eq.trans rfl rfl
def RA (g:Bool) (op:BinOp) (r:Option Bool):Option PV:=if g then none else match op with
 | .eql=>r.map .bool
 | .neq=>r.map fun r=> .bool (!r)
 | _=>none
@[go_sem] theorem gY {op a b} :Xf P op t (.p (.agg a)) (.p (.agg b))=RA (P.eqGuardType P.depth t) op (Wn P 9 t (.agg a) (.agg b)):=Eq.trans rfl rfl
@[go_sem] theorem kI {b} :RA false .eql (some b)=some (.bool b):=Eq.trans rfl rfl
@[go_sem] theorem kJ {b} :RA false .neq (some b)=some (.bool (!b)):=Eq.trans rfl rfl
def BD (P:Program) (d:Nat) (t:TypeId) (D:Option TypeDesc) (x y:PV):Option Bool:=match D,x,y with
  | some .bool,.bool a,.bool b=>some (a==b)
  | some (.int _),.int k a,.int k' b=>if k=k' then some (decide (a=b)) else none
  | some .string,.str a,.str b=>some (decide (a=b))
  | some (.struct fs),.agg a,.agg b=>if P.stoodInHeld t then none else UJ (Wn P d) P fs.toList a b
  | some (.array n e),.agg a,.agg b=>match XA P e with | some m=>FT (Wn P d e) P e m n 0 a b | none=>none
  | _,_,_=>none
@[go_sem] theorem aT {d x y} :Wn P (d+1) t x y=BD P d t (P.underlying t) x y:=Eq.trans rfl rfl
@[go_sem] theorem aS {d a b} :BD P d t (some .bool) (.bool a) (.bool b)=some (a==b):=Eq.trans rfl rfl
@[go_sem] theorem iJ {d k0 a b} :BD P d t (some (.int k0)) (.int k a) (.int k b)=some (decide (a=b)):=by simp [BD]
theorem QT {d fs a b} (h:P.stoodInHeld t=false):BD P d t (some (.struct fs)) (.agg a) (.agg b)=UJ (Wn P d) P fs.toList a b:=by simp [BD,h]
def Cw (x y:Option Bool):Option Bool:=x.bind fun p=>y.map fun q=>p&&q
@[go_sem] theorem dC {p q} :Cw (some p) (some q)=some (p&&q):=Eq.trans rfl rfl
def OW (f:PV->PV->Option Bool) (x y:Option PV):Option Bool:=x.bind fun x=>y.bind fun y=>f x y
@[go_sem] theorem kA {f x y} :OW f (some x) (some y)=f x y:=Eq.trans rfl rfl
@[go_sem] theorem BE {f a b} :UJ f P [] a b=some true:=Eq.trans rfl rfl
@[go_sem] theorem KO {f fi r a b} : UJ f P (fi :: r) a b = if fi.name = "_" then UJ f P r a b else Cw (OW (f fi.type) (apart P fi.type a fi.offset) (apart P fi.type b fi.offset)) (UJ f P r a b) := by
 simp only [UJ]
 split
 ·rfl
 ·cases apart P fi.type a fi.offset<;>cases apart P fi.type b fi.offset<;>simp [OW,Cw]
  rename_i x y
  cases f fi.type x y<;>cases UJ f P r a b<;>rfl
def iU (g:Option Bool) (s:Option Nat) (cs:List PV) (off:Nat):Option PV:=match g,s with
 | some true,some n=>if off+n<=cs.length then some (.agg ((cs.drop off).take n)) else none
 | some false,_=>cs[off]?
 | _,_=>none
@[go_sem] theorem iT {cs off} :apart P t cs off=iU (Z4 P t) (XA P t) cs off:=Eq.trans rfl rfl
@[go_sem] theorem iV {s cs off} :iU (some false) s cs off=cs[off]? :=Eq.trans rfl rfl
def Dl (g:Option Bool) (s:Option Nat) (H:List Obj) (x:V):Option V:=match g,s with
 | some true,some n=>(YY H x n).map mkA
 | some false,_=>match YY H x 1 with
  | some (c::_)=>some c
  | _=>none
 | _,_=>none
def zE (x:Option (List V)):Option V:=match x with | some (c::_)=>some c | _=>none
@[go_sem] theorem kM {c l} :zE (some (c::l))=some c:=Eq.trans rfl rfl
@[go_sem] theorem iO {x} :UL P H t x=Dl (Z4 P t) (XA P t) H x:=Eq.trans rfl rfl
@[go_sem] theorem Pr {s x} :Dl (some false) s H x=zE (YY H x 1):=by rfl
@[go_sem] theorem Pq {n x} :Dl (some true) (some n) H x=(YY H x n).map mkA:=Eq.trans rfl rfl
@[go_sem] theorem aR {x j n} :YY H (.lp x j) n=if j+n<=x.cells.length then some (((x.cells.drop j).take n).map .p) else none:=Eq.trans rfl rfl
def Ls (ob:Obj) (off n:Nat):Option (List V):=match ob with | .cells cs=>if off+n<=cs.length then some ((cs.drop off).take n) else none | _=>none
@[go_sem] theorem Ph {o off n} :YY H (.ptr o off) n=Ls (oat H o) off n:=Eq.trans rfl rfl
@[go_sem] theorem NW {cs off n} :Ls (.cells cs) off n=if off+n<=cs.length then some ((cs.drop off).take n) else none:=Eq.trans rfl rfl
def H8 (ob:Obj) (i j tot n:Nat):Option (List V):=match ob with
 | .elems _ xs=>if xs.length=tot/\i<xs.length/\j+n<=(YK xs i).cells.length then some ((((YK xs i).cells.drop j).take n).map .p) else none
 | _=>none
@[go_sem] theorem aQ {o i j tot n} :YY H (.ep o i j tot) n=H8 (oat H o) i j tot n:=Eq.trans rfl rfl
@[go_sem] theorem M6 {S xs i j tot n} :H8 (.elems S xs) i j tot n=if xs.length=tot/\i<xs.length/\j+n<=(YK xs i).cells.length then some ((((YK xs i).cells.drop j).take n).map .p) else none:=Eq.trans rfl rfl
@[go_sem] theorem cH {cs} :(PV.agg cs).cells=cs:=Eq.trans rfl rfl
@[go_sem] theorem cJ {n} :(PV.int k n).cells= [.int k n]:=Eq.trans rfl rfl
@[go_sem] theorem Rc {b} :(PV.bool b).cells= [.bool b]:=Eq.trans rfl rfl
@[go_sem] theorem cK {s} :(PV.str s).cells= [.str s]:=Eq.trans rfl rfl
@[go_sem] theorem Re {c xs} :(PV.list c xs).cells= [.list c xs]:=Eq.trans rfl rfl
@[go_sem] theorem sH {n} :(PV.int k n).one=true:=Eq.trans rfl rfl
@[go_sem] theorem nV {b} :(PV.bool b).one=true:=Eq.trans rfl rfl
@[go_sem] theorem sI {s} :(PV.str s).one=true:=Eq.trans rfl rfl
@[go_sem] theorem nW {c xs} :(PV.list c xs).one=true:=Eq.trans rfl rfl
@[go_sem] theorem vM {cs} :mkA cs=match Wo cs with | some ps=> .p (.agg ps) | none=> .agg cs:=Eq.trans rfl rfl
@[go_sem] theorem iN : Wo []=some []:=Eq.trans rfl rfl
@[go_sem] theorem bD {x r} :Wo (.p x::r)=(Wo r).map (x:: ·):=by rfl
def Je (n:Option Nat) (a:Bool) (x:V):Option V:=match n with | some n=>if a then some (UM n x) else none | none=>none
@[go_sem] theorem aU {s f x} :Jp P H s f x=Je (ZC P s f) (YC H x) x:=Eq.trans rfl rfl
@[go_sem] theorem Mu {n x} :Je (some n) true x=some (UM n x):=Eq.trans rfl rfl
@[go_sem] theorem iR {n x j} :UM n (.lp x j)= .lp x (j+n):=Eq.trans rfl rfl
@[go_sem] theorem bI {n o off} :UM n (.ptr o off)= .ptr o (off+n):=Eq.trans rfl rfl
@[go_sem] theorem iQ {n o i j tot} :UM n (.ep o i j tot)= .ep o i (j+n) tot:=Eq.trans rfl rfl
def Fc (ob:Obj):Bool:=match ob with | .cells _=>true | _=>false
@[go_sem] theorem Mr {cs} :Fc (.cells cs)=true:=Eq.trans rfl rfl
def Fe (ob:Obj) (tot:Nat):Bool:=match ob with | .elems _ xs=>decide (xs.length=tot) | _=>false
@[go_sem] theorem Ms {S xs tot} :Fe (.elems S xs) tot=decide (xs.length=tot):=Eq.trans rfl rfl
def IT (ob:Obj) (tot:Nat):Bool:=match ob with | .elems _ xs=>decide (xs.length=tot) | .cells _=>true | _=>false
@[go_sem] theorem O1 {S xs tot} :IT (.elems S xs) tot=decide (xs.length=tot):=Eq.trans rfl rfl
@[go_sem] theorem iM {x j} :YC H (.lp x j)=true:=Eq.trans rfl rfl
@[go_sem] theorem Pp {o off} :YC H (.ptr o off)=Fc (oat H o):=Eq.trans rfl rfl
@[go_sem] theorem iL {o i j tot} :YC H (.ep o i j tot)=Fe (oat H o) tot:=Eq.trans rfl rfl
def WT (e:Option (Option Nat×Nat)) (H:List Obj) (x i:V):Option V:=match e,i with
 | some (none,S),.p (.int _ n)=>match x with
  | .p (.list _ xs)=>if 0<=n/\n<xs.length then (if (YK xs n.toNat).cells.length=S then some (.lp (YK xs n.toNat) 0) else none) else none
  | .sl o off len tot=>match oat H o with
   | .elems S' xs=>if xs.length=tot/\S'=S then (if 0<=n/\n<len then some (.ep o (off+n.toNat) 0 tot) else none) else none
   | .cells _=>if S=1/\off=0/\len=tot/\0<=n/\n<len then some (.ptr o n.toNat) else none
   | _=>none
  | _=>none
 | some (some k,S),.p (.int _ n)=>if 0<=n/\n<k then (if YC H x then some (UM (n.toNat*S) x) else none) else none
 | _,_=>none
@[go_sem] theorem bB {x i} :Jr P H t x i=WT (XO P t) H x i:=Eq.trans rfl rfl
theorem AF {S c xs n} (h0:0<=n) (h1:n<(List.length xs:Int)):WT (some (none,S)) H (.p (.list c xs)) (.p (.int k n))=if (YK xs n.toNat).cells.length=S then some (.lp (YK xs n.toNat) 0) else none:=by
 simp_all [WT]
def nth {α:Type} [Inhabited α] (l:List α) (i:Nat):α:=l.getD i default
theorem Xe {α:Type} [Inhabited α] {f:α->PV} {l:List α} {i:Nat} (h:i<l.length):YK (l.map f) i=f (nth l i):=by
 simp [YK,nth,h]
theorem Zi {α:Type} [Inhabited α] {l:List α} {i:Nat} (h:i<l.length):nth l i=l[i]:=by simp [nth,h]
@[go_sem] theorem OD {α:Type} [Inhabited α] {f:α->PV} {l:List α} {S c n} (h0:0<=n) (h1:n<(l.length:Int)) :
  WT (some (none,S)) H (.p (.list c (l.map f))) (.p (.int k n))=if (f (nth l n.toNat)).cells.length=S then some (.lp (f (nth l n.toNat)) 0) else none:=by
 grind [AF,Xe]
def Em (ob:Obj) (S o off len tot:Nat) (n:Int):Option V:=match ob with
 | .elems S' xs=>if xs.length=tot/\S'=S then (if 0<=n/\n<len then some (.ep o (off+n.toNat) 0 tot) else none) else none
 | .cells _=>if S=1/\off=0/\len=tot/\0<=n/\n<len then some (.ptr o n.toNat) else none
 | _=>none
@[go_sem] theorem Pl {S o off len tot n} :WT (some (none,S)) H (.sl o off len tot) (.p (.int k n))=Em (oat H o) S o off len tot n:=Eq.trans rfl rfl
@[go_sem] theorem dH {S xs o off} {len tot:Nat} {n:Int} (h0:0<=n) (h1:n<(len:Int)) (ht:xs.length=tot):Em (.elems S xs) S o off len tot n=some (.ep o (off+n.toNat) 0 tot):=by
 grind [Em]
@[go_sem] theorem OC {n} {m S:Nat} {x} (h0:0<=n) (h1:n<(m:Int)):WT (some (some m,S)) H x (.p (.int k n))=Je (some (n.toNat*S)) (YC H x) x:=by
 simp_all [WT,Je]
def ED (H:List Obj) (D:Option TypeDesc) (x:V):Option PV:=match D,x with
 | some (.slice _),.p (.list _ xs)=>some (.int .i64 xs.length)
 | some (.slice _),.sl o _ len tot=>match oat H o with
  | .elems _ xs=>if xs.length=tot then some (.int .i64 len) else none
  | _=>none
 | some .string,.p (.str s)=>some (.int .i64 s.length)
 | some (.array n _),_=>some (.int .i64 n)
 | _,_=>none
@[go_sem] theorem qJ {x} :Hp P H t x=ED H (P.underlying t) x:=Eq.trans rfl rfl
@[go_sem] theorem Pm {e c xs} :ED H (some (.slice e)) (.p (.list c xs))=some (.int .i64 (List.length xs)):=Eq.trans rfl rfl
def oM (ob:Obj) (len tot:Nat):Option PV:=match ob with | .elems _ xs=>if xs.length=tot then some (.int .i64 len) else none | _=>none
@[go_sem] theorem iK {e o off len tot} :ED H (some (.slice e)) (.sl o off len tot)=oM (oat H o) len tot:=Eq.trans rfl rfl
@[go_sem] theorem T0 {S xs len tot} :oM (.elems S xs) len tot=if xs.length=tot then some (.int .i64 len) else none:=Eq.trans rfl rfl
@[go_sem] theorem bC {s} :ED H (some .string) (.p (.str s))=some (.int .i64 (List.length s)):=Eq.trans rfl rfl
@[go_sem] theorem qR {b} :bZ .not (.p (.bool b))=some (.bool (!b)):=Eq.trans rfl rfl
@[go_sem] theorem qQ {n} :bZ .neg (.p (.int k n))=some (.int k (k.wrap (0-n))):=Eq.trans rfl rfl
def Hj (D E:Option TypeDesc) (x:V):Option PV:=match D,E,x with
 | some _,some (.int k),.p (.int _ n)=>some (.int k (k.wrap n))
 | some (.int _),some .string,.p (.int _ n)=>if 0<=n/\n<128 then some (.str [UInt8.ofNat n.toNat]) else none
 | some .string,some .string,.p (.str b)=>some (.str b)
 | _,_,_=>none
@[go_sem] theorem iI {s x} :BC P s t x=Hj (P.underlying s) (P.underlying t) x:=Eq.trans rfl rfl
@[go_sem] theorem Pj {D k' n} :Hj (some D) (some (.int k)) (.p (.int k' n))=some (.int k (k.wrap n)):=by rfl
def Jd (E:Option TypeDesc) (H:List Obj) (x:V):Option PV:=match E,x with
  | some (.int .u8),.p (.list _ xs)=>(Xd xs).map .str
  | some (.int .u8),.sl o off len tot=>match oat H o with
   | .elems _ xs=>if xs.length=tot/\off+len<=tot then (Xd ((xs.take (off+len)).drop off)).map .str else none
   | _=>none
  | _,_=>none
def AD (P:Program) (H:List Obj) (D E:Option TypeDesc) (x:V):Option PV:=match D,E with
 | some (.slice e),some .string=>Jd (P.underlying e) H x
 | _,_=>none
@[go_sem] theorem aO {s x} :Qs P H s t x=AD P H (P.underlying s) (P.underlying t) x:=Eq.trans rfl rfl
@[go_sem] theorem Oy {E x} :AD P H (some (.int k)) E x=none:=Eq.trans rfl rfl
@[go_sem] theorem Mj {e x} :AD P H (some (.slice e)) (some .string) x=Jd (P.underlying e) H x:=Eq.trans rfl rfl
@[go_sem] theorem Mt {c xs} :Jd (some (.int .u8)) H (.p (.list c xs))=(Xd xs).map .str:=Eq.trans rfl rfl
def LW (ob:Obj) (off len tot:Nat):Option PV:=match ob with | .elems _ xs=>if xs.length=tot/\off+len<=tot then (Xd ((xs.take (off+len)).drop off)).map .str else none | _=>none
@[go_sem] theorem Pg {o off len tot} :Jd (some (.int .u8)) H (.sl o off len tot)=LW (oat H o) off len tot:=Eq.trans rfl rfl
@[go_sem] theorem N8 {S xs off len tot} :LW (.elems S xs) off len tot=if xs.length=tot/\off+len<=tot then (Xd ((xs.take (off+len)).drop off)).map .str else none:=Eq.trans rfl rfl
@[go_sem] theorem OS : Xd []=some []:=Eq.trans rfl rfl
@[go_sem] theorem AQ {n r} :Xd (.int .u8 n::r)=(Xd r).map (UInt8.ofNat n.toNat:: ·):=by rfl
@[go_sem] theorem tE {a b:Int} (h:0<=a):a.tdiv b=a / b:=Int.tdiv_eq_ediv_of_nonneg h
@[go_sem] theorem tO {a b:Int} (h:0<=a):a.tmod b=a%b:=Int.tmod_eq_emod_of_nonneg h
@[go_sem] theorem yH {cs} :vc H (.p (.agg cs))=if cs.all (·.one)=true then some (cs.map .p) else none:=by rfl
@[go_sem] theorem tP {cs} :vc H (.agg cs)=if cs.all (V.one H)=true then some cs else none:=by rfl
@[go_sem] theorem yI {n} :vc H (.p (.int k n))=some [.p (.int k n)]:=Eq.trans rfl rfl
@[go_sem] theorem tQ {n} :vc H (.p (.bool n))=some [.p (.bool n)]:=Eq.trans rfl rfl
@[go_sem] theorem yJ {n} :vc H (.p (.str n))=some [.p (.str n)]:=Eq.trans rfl rfl
@[go_sem] theorem tR {c xs} :vc H (.p (.list c xs))=some [.p (.list c xs)]:=Eq.trans rfl rfl
@[go_sem] theorem Zau {o off len tot} :vc H (.sl o off len tot)=if IT (oat H o) tot=true then some [.sl o off len tot] else none:=Eq.trans rfl rfl
@[go_sem] theorem yK {x} :V.one H (.p x)=x.one:=Eq.trans rfl rfl
@[go_sem] theorem tT {o off len tot} :V.one H (.sl o off len tot)=IT (oat H o) tot:=Eq.trans rfl rfl
@[go_sem] theorem sN {α:Type} {n} {cs:List α} :Yf ([]:List α) n cs= []:=by rfl
@[go_sem] theorem oO {α:Type} {x c:α} {l cs} :Yf (x::l) 0 (c::cs)=c::Yf l 0 cs:=by simp [Yf]
@[go_sem] theorem dI {α:Type} {x:α} {l} :Yf (x::l) 0 []=x::l:=by simp [Yf]
@[go_sem] theorem oN {α:Type} {x:α} {l cs n} :Yf (x::l) (n+1) cs=x::Yf l n cs:=by simp [Yf]
def LA (H:List Obj) (o:Nat) (ob:Obj) (off n:Nat) (cs:List V):Option (List Obj):=match ob with
 | .cells old=>if off+n<=old.length then some (J6 H o (.cells (Yf old off cs))) else none
 | _=>none
@[go_sem] theorem PX {n o off cs} :Ut H n (.ptr o off) cs=if cs.length=n then LA H o (oat H o) off n cs else none:=Eq.trans rfl rfl
@[go_sem] theorem N0 {o old off n cs} :LA H o (.cells old) off n cs=if off+n<=old.length then some (J6 H o (.cells (Yf old off cs))) else none:=Eq.trans rfl rfl
def DB (H:List Obj) (o:Nat) (ob:Obj) (i j tot n:Nat) (ps:Option (List PV)):Option (List Obj):=match ob,ps with
 | .elems S xs,some ps=>if xs.length=tot/\i<xs.length/\j+n<=(YK xs i).cells.length/\ps.all (·.one)=true/\(YK xs i).cells.all (·.one)=true then
   some (J6 H o (.elems S (xs.set i (NB (YK xs i) (Yf (YK xs i).cells j ps))))) else none
 | _,_=>none
@[go_sem] theorem bX {n o i j tot cs} :Ut H n (.ep o i j tot) cs=if cs.length=n then DB H o (oat H o) i j tot n (Wo cs) else none:=Eq.trans rfl rfl
@[go_sem] theorem Rx {α:Type} [Inhabited α] {f:α->PV} {l:List α} {o S i j tot n ps} (ht:l.length=tot) (hi:i<l.length):DB H o (.elems S (l.map f)) i j tot n (some ps) =
  if j+n<=(f (nth l i)).cells.length/\ps.all (·.one)=true/\(f (nth l i)).cells.all (·.one)=true then
   some (J6 H o (.elems S ((l.map f).set i (NB (f (nth l i)) (Yf (f (nth l i)).cells j ps))))) else none:=by
 simp_all [DB,Xe]
@[go_sem] theorem sD {a cs} :NB (.agg a) cs= .agg cs:=Eq.trans rfl rfl
@[go_sem] theorem sE {n c l} :NB (.int k n) (c::l)=c:=Eq.trans rfl rfl
@[go_sem] theorem aN {l} :Jn P H t l=match ZW P t,Bx P t with
 | some zs,some pl=>(Vj H pl (zs.map .p) l).map mkA
 | _,_=>none:=Eq.trans rfl rfl
@[go_sem] theorem aV {pl cs} :Vj H pl cs []=some cs:=by simp [Vj]
def Hl (H:List Obj) (pl:Nat->Option (Nat×Nat)) (cs:List V) (r:List (Nat×V)) (q:Option (Nat×Nat)) (vs:Option (List V)):Option (List V):=match q,vs with
 | some (off,sz),some vs=>if vs.length=sz/\off+sz<=cs.length then Vj H pl (Yf cs off vs) r else none
 | _,_=>none
@[go_sem] theorem Pk {pl cs i v r} :Vj H pl cs ((i,v)::r)=Hl H pl cs r (pl i) (vc H v):=Eq.trans rfl rfl
@[go_sem] theorem OA {pl cs off sz vs r} :Hl H pl cs r (some (off,sz)) (some vs)=if vs.length=sz/\off+sz<=cs.length then Vj H pl (Yf cs off vs) r else none:=Eq.trans rfl rfl
@[go_sem] theorem vS {l i} :Bw l i=l[i]? :=Eq.trans rfl rfl
@[go_sem] theorem vR {n i} :vQ n i=some (i*n,n):=Eq.trans rfl rfl
end vals
end Go.AM
namespace Go.AM
open Go.RowKit
section
variable {P : Program} {H : List Obj} {k : IntKind} {t u : TypeId} {fr : List V}
def Hq (S:Option Nat) (H:List Obj) (n:Nat) (l:List (Nat×V)):Option (V×List Obj):=match S with
 | some S=>if n=l.length/\n*S<=16777216/\0<S then (WJ H S 0 l).map fun xs=>(.sl H.length 0 n n,H++ [.elems S xs]) else none
 | none=>none
@[go_sem] theorem iP {n l} :Yg P (.buildSlice t n (List.toArray l)) fr H=Hq (WZ P t) H n (l.map fun x=>(x.1,ev fr x.2)):=by
 grind [Yg,WZ,Hq,Dk]
@[go_sem] theorem Pn {S n l} :Hq (some S) H n l=if n=l.length/\n*S<=16777216/\0<S then (WJ H S 0 l).map fun xs=>(.sl H.length 0 n n,H++ [.elems S xs]) else none:=Eq.trans rfl rfl
@[go_sem] theorem nK {S n} :WJ H S n []=some []:=by simp [WJ]
@[go_sem] theorem cX {S n i x r} :WJ H S n ((i,.p x)::r)=if i=n then if x.cells.length=S/\x.cells.all (·.one)=true then (WJ H S (n+1) r).map (x:: ·) else none else none:=by rfl
@[go_sem] theorem rW {S n i f r} :WJ H S n ((i,.fn (.func f) [] [])::r)=if i=n then if 1=S then (WJ H S (n+1) r).map (.fn f:: ·) else none else none:=by simp [WJ,sL,PV.cells,PV.one]
def V2 (P:Program) (t:TypeId):Option (Nat×Nat):=match P.underlying t with
 | some (.slice e)=>match XA P e,Wz P e,(P.info? e).map (·.bytes) with
  | some S,some z,some by'=>if 0<S/\z.cells.length=S/\z.cells.all (·.one)=true/\by'≠0 then some (S,by') else none
  | _,_,_=>none
 | _=>none
theorem BK {S by'} (h:V2 P t=some (S,by')): ∃e z,P.underlying t=some (.slice e)/\XA P e=some S/\Wz P e=some z/\(P.info? e).map (·.bytes)=some by'/\0<S/\z.cells.length=S/\z.cells.all (·.one)=true/\by'≠0:=by
 unfold V2 at h
 grind
def X5 (D:Option TypeDesc) (H:List Obj) (y:V):Option (List PV):=match D,y with
 | some (.slice _),.p (.list _ ys)=>some ys
 | some (.slice _),.sl o off len tot=>match oat H o with
  | .elems _ xs=>if xs.length=tot/\off+len<=tot then some ((xs.take (off+len)).drop off) else none
  | _=>none
 | some .string,.p (.str s)=>some (s.map fun b=> .int .u8 b.toNat)
 | _,_=>none
def L6 (ob:Obj) (off len tot:Nat):Option (List PV):=match ob with | .elems _ xs=>if xs.length=tot/\off+len<=tot then some ((xs.take (off+len)).drop off) else none | _=>none
@[go_sem] theorem PI {e c ys} :X5 (some (.slice e)) H (.p (.list c ys))=some ys:=Eq.trans rfl rfl
@[go_sem] theorem iY {e o off len tot} :X5 (some (.slice e)) H (.sl o off len tot)=L6 (oat H o) off len tot:=Eq.trans rfl rfl
theorem CZ {S xs n} (h:List.length xs=n):L6 (.elems S xs) 0 n n=some xs:=by grind [L6]
def Hs (H:List Obj) (F:Option (Nat×Nat)) (ys:Option (List PV)):Option (V×List Obj):=match F,ys with
 | some (S,by'),some ys=>if Q8 S ys=true/\ys.length*by'<=140737488355328/\ys.length<=140737488355328 then some (.sl H.length 0 ys.length ys.length,H++ [.elems S ys]) else none
 | _,_=>none
def Wc (H:List Obj) (F:Option (Nat×Nat)) (ob:Obj) (o n:Nat) (ys:Option (List PV)):Option (V×List Obj):=match F,ob,ys with
 | some (S,by'),.elems S' xs,some ys=>if S'=S/\xs.length=n/\Q8 S ys=true/\(n+ys.length)*by'<=140737488355328/\n+ys.length<=140737488355328 then
   some (.sl o 0 (n+ys.length) (n+ys.length),J6 H o (.elems S (xs++ys))) else none
 | _,_,_=>none
theorem EB {z x y ys e S by'} (h1:P.underlying t=some (.slice e)) (h2:XA P e=some S) (h3:Wz P e=some z) (h4:(P.info? e).map (·.bytes)=some by') (h5:BP P H u y=some ys) (h6:0<S/\z.cells.length=S/\z.cells.all (·.one)=true/\by'≠0) :
  YH P H t u x y=if Q8 S ys=true then (match x with
    | .p (.list cl xs)=>if cl=true/\Q8 S xs=true/\(xs= []\/0<ys.length)/\(xs.length+ys.length)*by'<=140737488355328/\xs.length+ys.length<=140737488355328 then
      some (.sl H.length 0 (xs.length+ys.length) (xs.length+ys.length),H++ [.elems S (xs++ys)]) else none
    | .sl o off len tot=>match oat H o with
     | .elems S' xs=>if S'=S/\off=0/\len=tot/\xs.length=tot/\(tot+ys.length)*by'<=140737488355328/\tot+ys.length<=140737488355328 then
       some (.sl o 0 (tot+ys.length) (tot+ys.length),J6 H o (.elems S (xs++ys))) else none
     | _=>none
    | _=>none) else none:=by
 simp only [YH,h1,h2,h3,h4,h5]
 grind
theorem Hf {y F} (hF:V2 P t=some F):YH P H t u (.p (.list true [])) y=Hs H (some F) (X5 (P.underlying u) H y):=by
 obtain ⟨S,by'⟩:=F;obtain ⟨e,z,h1,h2,h3,h4,h6⟩:=BK hF;have e1:X5 (P.underlying u) H y=BP P H u y:=Eq.trans rfl rfl;rw [e1]
 cases h5:BP P H u y with
 | none=>grind [YH,Hs]
 | some ys =>
  grind [EB,Hs,Q8]
theorem Xq {y F o n} (hF:V2 P t=some F):YH P H t u (.sl o 0 n n) y=Wc H (some F) (oat H o) o n (X5 (P.underlying u) H y):=by
 obtain ⟨S,by'⟩:=F;obtain ⟨e,z,h1,h2,h3,h4,h6⟩:=BK hF;have e1:X5 (P.underlying u) H y=BP P H u y:=Eq.trans rfl rfl;rw [e1]
 cases h5:BP P H u y with
 | none =>
  grind [YH,Wc]
 | some ys =>
  rw [EB h1 h2 h3 h4 h5 h6];simp only [Wc]
  grind
@[go_sem] theorem bM {S b ys} :Hs H (some (S,b)) (some ys)=if Q8 S ys=true/\ys.length*b<=140737488355328/\ys.length<=140737488355328 then some (.sl H.length 0 ys.length ys.length,H++ [.elems S ys]) else none:=Eq.trans rfl rfl
theorem KR {S b xs ys o n} (hn:xs.length=n) (hb:(n+ys.length)*b<=140737488355328) (hb2:n+ys.length<=140737488355328):Wc H (some (S,b)) (.elems S xs) o n (some ys)=if Q8 S ys=true then some (.sl o 0 (n+ys.length) (n+ys.length),J6 H o (.elems S (xs++ys))) else none:=by
 simp_all [Wc]
@[go_sem] theorem oP {α:Type} {S} {f:α->PV} {l:List α} :L6 (.elems S (l.map f)) 0 l.length l.length=some (l.map f):=CZ Zb
@[go_sem] theorem oQ {S x} :L6 (.elems S [x]) 0 1 1=some [x]:=CZ Zb
@[go_sem] theorem bO {α:Type} {S b o x} {f:α->PV} {l:List α} (hb:(l.length+1)*b<=140737488355328) (hb2:l.length+1<=140737488355328):Wc H (some (S,b)) (.elems S (l.map f)) o l.length (some [x])=if Q8 S [x]=true then some (.sl o 0 (l.length+1) (l.length+1),J6 H o (.elems S (l.map f++ [x]))) else none :=
 KR Zb Za Za
@[go_sem] theorem bP {α β:Type} {S b o} {f:α->PV} {g:β->PV} {l:List α} {m:List β} (hb:(l.length+m.length)*b<=140737488355328) (hb2:l.length+m.length<=140737488355328):Wc H (some (S,b)) (.elems S (l.map f)) o l.length (some (m.map g))=if Q8 S (m.map g)=true then some (.sl o 0 (l.length+m.length) (l.length+m.length),J6 H o (.elems S (l.map f++m.map g))) else none:=by
 grind [KR]
@[go_sem] theorem sG {S} :Q8 S []=true:=Eq.trans rfl rfl
@[go_sem] theorem nR {S x l} :Q8 S (x::l)=((x.cells.length==S)&&x.cells.all (·.one)&&Q8 S l):=by rfl
theorem Ji {α:Type} {S} {f:α->PV} {l:List α} (h: ∀x,TD S (f x)=true):Q8 S (l.map f)=true:=by grind [Q8]
def Af (P:Program) (t:TypeId):Option (Nat×Nat×PV):=match P.underlying t with
  | some (.slice e)=>match XA P e,Wz P e,(P.info? e).map (·.bytes) with
   | some S,some z,some by'=>if z.cells.all (·.one)=true/\z.cells.length=S/\0<S then some (S,by',z) else none
   | _,_,_=>none
  | _=>none
end
def XT : Nat->List Nat->List V->List V
 | _,_,[]=> []
 | i,[],_::l=> .junk::XT (i+1) [] l
 | i,k::ks,x::l=>if i=k then x::XT (i+1) ks l else .junk::XT (i+1) (k::ks) l
def V7 : List (Nat×V)->List V->List V
 | [],fr=>fr
 | (i,v)::r,fr=>V7 r (pt fr i v)
@[go_sem] theorem cT {i ks} :XT i ks []= []:=by rfl
@[go_sem] theorem Tx {i x l} :XT i [] (x::l)= .junk::XT (i+1) [] l:=by simp [XT]
@[go_sem] theorem Tw {i k ks x l} :XT i (k::ks) (x::l)=if i=k then x::XT (i+1) ks l else .junk::XT (i+1) (k::ks) l:=by simp [XT]
@[go_sem] theorem yV : ((0:Nat):Int)=0:=Eq.trans rfl rfl
@[go_sem] theorem yW {n:Nat} :((n+1:Nat):Int)=(n:Int)+1:=Eq.trans rfl rfl
@[go_sem] theorem wU {n:Nat} :((n:Int)).toNat=n:=Eq.trans rfl rfl
@[go_sem] theorem oL {fr} :V7 [] fr=fr:=by simp [V7]
@[go_sem] theorem dG {i v r fr} :V7 ((i,v)::r) fr=V7 r (pt fr i v):=by simp [V7]
@[go_sem] theorem qN {p q:Prop} [Decidable p] [Decidable q]:(decide p&&decide q)=decide (p/\q):=Zb
@[go_sem] theorem TI {p q:Prop} [Decidable p] [Decidable q]:(decide p||decide q)=decide (p\/q):=Zb
theorem Zj {P c fr H Q} {I:Type} (ks:List Nat) (sets:I->List (Nat×V)) (hs:I->List Obj) (R:I->Prop) (μ:I->Nat) (i0:I) (hR:R i0) (h0:Weak H.length fr H (V7 (sets i0) (XT 0 ks fr)) (hs i0))
  (round: ∀i,R i->WV [] P c (V7 (sets i) (XT 0 ks fr)) (hs i) (WO (fun fr' H'=> ∃i',R i'/\μ i'<μ i/\Weak H.length fr' H' (V7 (sets i') (XT 0 ks fr)) (hs i')) Q)):AWP P (.loop c) fr H Q :=
 BS R (fun i=>V7 (sets i) (XT 0 ks fr)) hs μ i0 hR h0 fun i hi=>Zd [] _ _ _ _ (round i hi)
theorem ZH {P c fr H Q} (cuts:List Nat) {I:Type} (ks:List Nat) (sets:I->List (Nat×V)) (hs:I->List Obj) (R:I->Prop) (μ:I->Nat) (i0:I) (hR:R i0) (h0:Weak H.length fr H (V7 (sets i0) (XT 0 ks fr)) (hs i0))
  (round: ∀i,R i->WV cuts P c (V7 (sets i) (XT 0 ks fr)) (hs i) (WO (fun fr' H'=> ∃i',R i'/\μ i'<μ i/\Weak H.length fr' H' (V7 (sets i') (XT 0 ks fr)) (hs i')) Q)):AWP P (.loop c) fr H Q :=
 BS R (fun i=>V7 (sets i) (XT 0 ks fr)) hs μ i0 hR h0 fun i hi=>Zd cuts _ _ _ _ (round i hi)
theorem Zq {P x y fr H Q} {I:Type} (ks:List Nat) (sets:I->List (Nat×V)) (hs:I->List Obj) (R:I->Prop)
  (h:WV [] P x fr H (WO (fun fr' H'=> ∃i,R i/\Weak H.length fr' H' (V7 (sets i) (XT 0 ks fr)) (hs i)) Q)) (k: ∀i,R i->AWP P y (V7 (sets i) (XT 0 ks fr)) (hs i) Q):AWP P (.seq x y) fr H Q :=
 fun F ι a w hr hf=>by
 refine wp_seq (wp_mono (Zd [] _ _ _ _ h F ι a w hr hf) ?_);rintro e a' w' ⟨fr',H',ι',q,g,f⟩
 cases e with
 | normal =>
  obtain ⟨i,hi,hw⟩:=q;obtain ⟨ι2,r2,f2,g2⟩:=hw F ι' a' w' g.rel f;refine wp_mono (k i hi F ι2 a' w' r2 f2) ?_;rintro e2 a2 w2 ⟨fr2,H2,ι3,q2,g3,f3⟩;exact ⟨fr2,H2,ι3,q2,(g2 H ι w (Nat.le_refl _) g).trans g3,f3⟩
 | exit id=>exact ⟨fr',H',ι',q,g,f⟩
 | goto l=>exact ⟨fr',H',ι',q,g,f⟩
 | ret=>exact ⟨fr',H',ι',q,g,f⟩
 | panic ch=>exact ⟨fr',H',ι',q,g,f⟩
 | outgrown=>exact ⟨fr',H',ι',q,g,f⟩
@[go_sem] theorem pV {H n x} :Kz H n x .junk=True:=by simp [Kz]
@[go_sem] theorem yO {H n} {x y:PV} :Kz H n (.p x) (.p y)=(y=x):=by simp [Kz,refB,Mp]
@[go_sem] theorem tZ {H n o off len tot o' off' len' tot'} :Kz H n (.sl o off len tot) (.sl o' off' len' tot')=((o'=o/\off'=off/\len'=len/\tot'=tot)/\o<n):=by simp [Kz,refB]
@[go_sem] theorem pW {H n o off o' off'} :Kz H n (.ptr o off) (.ptr o' off')=((o'=o/\off'=off)/\o<n):=by simp [Kz,refB]
@[go_sem] theorem tU {H n} :FM H n [] []=True:=by simp [FM]
@[go_sem] theorem pS {H n x l x' l'} :FM H n (x::l) (x'::l')=(Kz H n x x'/\FM H n l l'):=by simp [FM]
@[go_sem] theorem tV {H n l} :Da H n l []=True:=by simp [Da]
@[go_sem] theorem pT {H n x l x' l'} :Da H n (x::l) (x'::l')=(Jc H n x x'/\Da H n l l'):=by simp [Da]
@[go_sem] theorem fT {H n cs cs'} :Jc H n (.cells cs) (.cells cs')=FM H n cs cs':=by simp [Jc]
@[go_sem] theorem fU {H n S S' xs xs'} :Jc H n (.elems S xs) (.elems S' xs')=(S=S'/\xs=xs'):=by simp [Jc]
@[go_sem] theorem tX {H n es es2} :Jc H n (.map es) (.map es2)=(es=es2):=by simp [Jc]
@[go_sem] theorem yN {H n o o2} :Kz H n (.mp o) (.mp o2)=(o2=o/\o<n):=by simp [Kz,refB,Mp]
@[go_sem] theorem tW {H n T E r bs T2 E2 r2 bs2} :Jc H n (.bld T E r bs) (.bld T2 E2 r2 bs2)=((T=T2/\E=E2/\r=r2/\bs=bs2)/\r<n):=by simp [Jc]
@[go_sem] theorem yM {H n o o2} :Kz H n (.bp o) (.bp o2)=(o2=o/\o<n):=by simp [Kz,refB,Mp]
@[go_sem] theorem pU {H n} :Jc H n .dead .dead=True:=by simp [Jc]
theorem Weak.mk {n0 fr H fr' H'} (h:n0<=H'.length/\H'.length<=H.length/\FM H H'.length fr fr'/\Da H H'.length H H'):Weak n0 fr H fr' H':=Weak.of h.1 h.2.2.1 h.2.2.2 h.2.1
theorem wk {n0 fr H fr' H'} (h:n0<=H'.length/\H'.length<=H.length/\FM H H'.length fr fr'/\Da H H'.length H H':=by simp (disch:=omega) only [go_sem,seval]):Weak n0 fr H fr' H':=Weak.mk h
theorem we {n0 x H' a b} (h:n0<=List.length b/\List.length b<=H'.length/\FM H' (List.length b) [x] [a]/\Da H' (List.length b) H' b:=by simp (disch:=omega) only [go_sem,seval]): ∃y H'',Weak n0 [x] H' [y] H''/\y=a/\H''=b:=⟨_,_,Weak.mk h,rfl,rfl⟩
attribute [go_sem] List.length_cons List.length_nil List.cons_append List.nil_append List.append_nil List.map_cons List.map_nil List.drop_zero List.drop_succ_cons List.drop_nil List.take_succ_cons List.take_zero List.take_nil List.all_cons List.all_nil
 Nat.zero_add Nat.add_zero and_self true_and and_true Option.map_some Option.bind_some List.getElem?_cons_zero List.getElem?_cons_succ Bool.and_true Bool.true_and Bool.and_self List.length_map if_true if_false decide_true decide_false IntWalk.i64_in IntWalk.i32_in IntWalk.u8_in IntWalk.u64_in IntWalk.u32_in
 beq_self_eq_true List.replicate_succ List.replicate_zero Bool.or_true Bool.true_or Bool.or_false Bool.false_or Bool.not_true Bool.not_false
end Go.AM
namespace Go.AM
open Go.RowKit
theorem RP.weaker {X X':Nat->Prop} {w x v} (h:RP X w x v) (hx: ∀b,X' b->X b):RP X' w x v:=h.ext (w':=w) fun _ hb hs=>⟨fun h=>hb (hx _ h),hs,rfl⟩
theorem Good.forget {F w H' ι' w'} (he:Env F [] w) (hf: ∀b,F b->b<w.heap.size) (g:Good F [] [] w H' ι' w'):Good F [] [] w [] [] w' :=
 .up he ⟨⟨rfl,fun b hb=>by have:=hf b hb;have:=g.size;omega,fun i j b hi=>by simp at hi,fun i b hi=>by simp at hi,fun o cs ho=>by simp at ho,fun o S xs ho=>by simp at ho,fun o es ho=>by simp at ho,fun o T E r bs ho=>by simp at ho⟩,
  g.os,g.tape,g.output,fun b c t h=>(g.shape b c t h).imp (fun h=>absurd h.1 Zb) id,g.size,g.keep,fun _ _ h=>h,fun o ob ho=>by simp at ho⟩
theorem ACalls.pure {P g args} {y:PV} (h:ACalls P g args [] fun x _=>x= .p y):ACalls P g args [] fun x H'=>x= .p y/\H'= []:=by
 refine ⟨h.1,fun F ι w vs hr hv=> ?_⟩;have hι:ι= []:=List.eq_nil_of_length_eq_zero hr.len;subst hι;refine (h.2 F [] w vs hr hv).mono ?_;rintro e w' ⟨x,H',ι',v,rfl,rfl,gd,rv⟩
 cases rv with | p _ _ rp =>
 exact ⟨_,[],[],v,rfl,⟨rfl,rfl⟩,gd.forget hr.env hr.fin,.p _ _ (rp.weaker fun b hb=> .inl (by rcases hb with hb | hb;exact hb;simp at hb))⟩
theorem JN {F:Nat->Prop} {w w':World} {H':List Obj} {ι':List (Option Nat)} {v:Value} {o S n:Nat} {xs:List PV} (hF: ∀b,F b->b<w.heap.size) (hn:xs.length=n) (ho:oat H' o= .elems S xs)
  (gd:Good F [] [] w H' ι' w') (rv:RV F H' ι' w' (.sl o 0 n n) v): ∃ι2,Good F [] [] w [.elems S xs] ι2 w'/\RV F [.elems S xs] ι2 w' (.sl 0 0 n n) v:=by
 have hH:=ZI ho Zb;have hlt:=(List.getElem?_eq_some_iff.1 hH).1
 have hlt':o<ι'.length:=by rw [gd.rel.len];exact hlt
 have hι':ι'[o]? =some (ι'[o]):=by simp [hlt']
 have hget: ∀ {i:Nat} {q:Option Nat},[ι'[o]][i]? =some q->i=0/\ι'[o]? =some q:=fun {i q} h=>by
  grind
 have hown: ∀b,Own F [ι'[o]] b->Own F ι' b:=fun b hb=>by
  rcases hb with hb | hb
  ·exact .inl hb
  ·simp at hb;right;rw [hb];simp
 refine ⟨[ι'[o]],⟨⟨⟨rfl,fun b hb=> ?_,fun i j b hi hj=> ?_,fun i b hi=> ?_,fun o' cs ho'=> ?_,fun o' S' xs' ho'=> ?_,fun o' es ho'=>by grind,fun o' T E r bs ho'=>by grind⟩,gd.rel.env.le hown⟩,gd.os,gd.tape,gd.output,fun b c t h=>(gd.shape b c t h).imp (fun h=>absurd h.1 Zb) id,gd.size,gd.keep,fun b hb _ h=> ?_,fun o ob ho=>by simp at ho⟩,?_⟩
 ·have:=hF b hb;have:=gd.size;omega
 ·grind
 ·exact gd.rel.avo o b (hget hi).2
 ·grind
 ·cases o' with
  | zero =>
   simp at ho';obtain ⟨rfl,rfl⟩:=ho';rcases gd.rel.elm o _ _ hH with ⟨e1,e2⟩ | ⟨b,c,t,cap,e1,e2,e3,e4,e5,e6,e7⟩
   ·grind
   ·exact .inr ⟨b,c,t,cap,by grind,e2,e3,e4,e5,e6,fun i x j y hi hj=>(e7 i x j y hi hj).weaker hown⟩
  | succ i=>simp at ho'
 ·simp at h;exact gd.own b hb Zb (by rw [h];simp)
 ·cases rv with
  | slNil _ S2 a h1 h2 =>
   rw [hH] at h2;simp at h2;obtain ⟨rfl,rfl⟩:=h2;exact .slNil 0 S a (by grind) rfl
  | sl _ _ _ _ b S2 cap t xs2 c h1 h2 ht hw hcap hl hlen hm =>
   rw [hH] at h2;simp at h2;obtain ⟨rfl,rfl⟩:=h2;exact .sl 0 0 n n b S cap t xs c (by grind) rfl hn hw hcap hl hlen hm
  | slD _ _ _ _ _ h1=>grind
  | slS _ _ _ _ _ S2 xs2 h1 hne=>grind
  | slC _ _ _ _ _ _ hd=>grind
theorem ACalls.fresh {P g args} {S n:Nat} {xs:List PV} (hn:xs.length=n) (h:ACalls P g args [] fun x H'=> ∃o,x= .sl o 0 n n/\oat H' o= .elems S xs):ACalls P g args [] fun x H'=>x= .sl 0 0 n n/\H'= [.elems S xs]:=by
 refine ⟨h.1,fun F ι w vs hr hv=> ?_⟩;have hι:ι= []:=List.eq_nil_of_length_eq_zero hr.len;subst hι;refine (h.2 F [] w vs hr hv).mono ?_;rintro e w' ⟨x,H',ι',v,rfl,⟨o,rfl,ho⟩,gd,rv⟩;obtain ⟨ι2,g2,r2⟩:=JN hr.fin hn ho gd rv
 grind
theorem ACalls.freshE {P g args} {α:Type} {S:Nat} {f:α->PV} {R:List α->Prop} (h:ACalls P g args [] fun x H'=> ∃l:List α,R l/\ ∃o,x= .sl o 0 l.length l.length/\oat H' o= .elems S (l.map f)) :
  ACalls P g args [] fun x H'=> ∃l:List α,R l/\x= .sl 0 0 l.length l.length/\H'= [.elems S (l.map f)]:=by
 refine ⟨h.1,fun F ι w vs hr hv=> ?_⟩;have hι:ι= []:=List.eq_nil_of_length_eq_zero hr.len;subst hι;refine (h.2 F [] w vs hr hv).mono ?_;rintro e w' ⟨x,H',ι',v,rfl,⟨l,hl,o,rfl,ho⟩,gd,rv⟩;obtain ⟨ι2,g2,r2⟩:=JN hr.fin Zb ho gd rv
 grind
theorem ACalls.frozen {P g args} {S n:Nat} {xs:List PV} (hn:xs.length=n) (h:ACalls P g args [] fun x H'=>x= .sl 0 0 n n/\H'= [.elems S xs]):ACalls P g args [] fun x H'=>x= .p (.list false xs)/\H'= []:=by
 refine ⟨h.1,fun F ι w vs hr hv=> ?_⟩;have hι:ι= []:=List.eq_nil_of_length_eq_zero hr.len;subst hι;refine (h.2 F [] w vs hr hv).mono ?_;rintro e w' ⟨x,H',ι',v,rfl,⟨rfl,rfl⟩,gd,rv⟩;have hk:Keeps (Own F ι') w' (Own F []) w':=fun b hb hs=>⟨fun h=>hb (.inl (by rcases h with h | h;exact h;simp at h)),hs,rfl⟩
 have:=UB (S:=S) (xs:=xs) (off:=0) (len:=n) (tot:=n) (Own F []) (fun b hb h=>by
  rcases h with h | h
  ·exact (gd.rel.avo 0 b hb).1 h
  ·simp at h) hk gd.rel rfl hn Za rv
 rw [Nat.zero_add,List.drop_zero,List.take_of_length_le Za] at this;exact ⟨_,[],[],v,rfl,⟨rfl,rfl⟩,gd.forget hr.env hr.fin,.p _ _ this⟩
theorem ACalls.frozenE {P g args} {α:Type} {S:Nat} {f:α->PV} {R:List α->Prop} (h:ACalls P g args [] fun x H'=> ∃l:List α,R l/\x= .sl 0 0 l.length l.length/\H'= [.elems S (l.map f)]) :
  ACalls P g args [] fun x H'=> ∃l:List α,R l/\x= .p (.list false (l.map f))/\H'= []:=by
 refine ⟨h.1,fun F ι w vs hr hv=> ?_⟩;have hι:ι= []:=List.eq_nil_of_length_eq_zero hr.len;subst hι;refine (h.2 F [] w vs hr hv).mono ?_;rintro e w' ⟨x,H',ι',v,rfl,⟨l,hl,rfl,rfl⟩,gd,rv⟩;have hk:Keeps (Own F ι') w' (Own F []) w':=fun b hb hs=>⟨fun h=>hb (.inl (by rcases h with h | h;exact h;simp at h)),hs,rfl⟩
 have:=UB (S:=S) (xs:=l.map f) (off:=0) (len:=l.length) (tot:=l.length) (Own F []) (fun b hb h=>by
  rcases h with h | h
  ·exact (gd.rel.avo 0 b hb).1 h
  ·simp at h) hk gd.rel rfl Zb Za rv
 rw [Nat.zero_add,List.drop_zero,List.take_of_length_le Zb] at this;exact ⟨_,[],[],v,rfl,⟨l,hl,rfl,rfl⟩,gd.forget hr.env hr.fin,.p _ _ this⟩
theorem ACalls.useV {P g args} {α:Type} {f:α->PV} {R:α->Prop} {H:List Obj} {K:V->List Obj->Prop} (h:ACalls P g args [] fun x H'=> ∃a:α,R a/\x= .p (f a)/\H'= []) (k: ∀a,R a->K (.p (f a)) H) (ha:ZE 0 args=true:=by rfl):ACalls P g args H K:=by
 refine (h.behind ha H).mono ?_;rintro x H' ⟨y',H1,⟨a,ra,rfl,rfl⟩,rfl,rfl⟩
 grind [Vb]
theorem ACalls.useE {P g args} {α:Type} {S:Nat} {f:α->PV} {R:List α->Prop} {H:List Obj} {K:V->List Obj->Prop} (h:ACalls P g args [] fun x H'=> ∃l:List α,R l/\x= .sl 0 0 l.length l.length/\H'= [.elems S (l.map f)])
  (k: ∀l,R l->K (.sl H.length 0 l.length l.length) (H++ [.elems S (l.map f)])) (ha:ZE 0 args=true:=by rfl):ACalls P g args H K:=by
 refine (h.behind ha H).mono ?_;rintro x H' ⟨y',H1,⟨l,rl,rfl,rfl⟩,rfl,rfl⟩
 grind [Vb,WA]
theorem ACalls.use {P g args} {y:PV} {H:List Obj} {K:V->List Obj->Prop} (h:ACalls P g args [] fun x H'=>x= .p y/\H'= []) (k:K (.p y) H) (ha:ZE 0 args=true:=by rfl):ACalls P g args H K:=by
 refine (h.behind ha H).mono ?_;rintro x H' ⟨y',H1,⟨rfl,rfl⟩,rfl,rfl⟩
 grind [Vb]
theorem ACalls.useF {P g args} {S n:Nat} {xs:List PV} {H:List Obj} {K:V->List Obj->Prop} (h:ACalls P g args [] fun x H'=>x= .sl 0 0 n n/\H'= [.elems S xs]) (k:K (.sl H.length 0 n n) (H++ [.elems S xs])) (ha:ZE 0 args=true:=by rfl):ACalls P g args H K:=by
 refine (h.behind ha H).mono ?_;rintro x H' ⟨y',H1,⟨rfl,rfl⟩,rfl,rfl⟩
 grind [Vb,WA]
theorem Zc {P:Program} {g:FuncId} {fn:Func} {c:Code} {args:List V} {y:PV} (hf:P.funcs[g]? =some fn) (hb:fn.body=some c) (hg:Zh P g)
  (h:WV [] P c (args++List.replicate (fn.ntmps-args.length) .junk) [] (UA P fn.results.toList fun x _=>x= .p y)):ACalls P g args [] fun x H'=>x= .p y/\H'= [] :=
 (Xb hf hb hg (Zd [] _ _ _ _ h)).pure
theorem WQ (cuts:List Nat) {P:Program} {g:FuncId} {fn:Func} {c:Code} {args:List V} {y:PV} (hf:P.funcs[g]? =some fn) (hb:fn.body=some c) (hg:Zh P g)
  (h:WV cuts P c (args++List.replicate (fn.ntmps-args.length) .junk) [] (UA P fn.results.toList fun x _=>x= .p y)):ACalls P g args [] fun x H'=>x= .p y/\H'= [] :=
 (Xb hf hb hg (Zd cuts _ _ _ _ h)).pure
theorem UI {P:Program} {g:FuncId} {fn:Func} {c:Code} {args:List V} {S n:Nat} {xs:List PV} (hn:xs.length=n) (hf:P.funcs[g]? =some fn) (hb:fn.body=some c) (hg:Zh P g)
  (h:WV [] P c (args++List.replicate (fn.ntmps-args.length) .junk) [] (UA P fn.results.toList fun x H'=> ∃o,x= .sl o 0 n n/\oat H' o= .elems S xs)):ACalls P g args [] fun x H'=>x= .sl 0 0 n n/\H'= [.elems S xs] :=
 (Xb hf hb hg (Zd [] _ _ _ _ h)).fresh hn
theorem KF (cuts:List Nat) {P:Program} {g:FuncId} {fn:Func} {c:Code} {args:List V} {S n:Nat} {xs:List PV} (hn:xs.length=n) (hf:P.funcs[g]? =some fn) (hb:fn.body=some c) (hg:Zh P g)
  (h:WV cuts P c (args++List.replicate (fn.ntmps-args.length) .junk) [] (UA P fn.results.toList fun x H'=> ∃o,x= .sl o 0 n n/\oat H' o= .elems S xs)):ACalls P g args [] fun x H'=>x= .sl 0 0 n n/\H'= [.elems S xs] :=
 (Xb hf hb hg (Zd cuts _ _ _ _ h)).fresh hn
theorem ZL (cuts:List Nat) {P:Program} {g:FuncId} {fn:Func} {c:Code} {args:List V} {α:Type} {S:Nat} {f:α->PV} {R:List α->Prop} (hf:P.funcs[g]? =some fn) (hb:fn.body=some c) (hg:Zh P g)
  (h:WV cuts P c (args++List.replicate (fn.ntmps-args.length) .junk) [] (UA P fn.results.toList fun x H'=> ∃l:List α,R l/\ ∃o,x= .sl o 0 l.length l.length/\oat H' o= .elems S (l.map f))):ACalls P g args [] fun x H'=> ∃l:List α,R l/\x= .sl 0 0 l.length l.length/\H'= [.elems S (l.map f)] :=
 (Xb hf hb hg (Zd cuts _ _ _ _ h)).freshE
theorem Weak.ofNil {n0 fr H fr' H'} (t S:Nat) (h:gt fr t= .p (.list true [])) (hn:n0<=H.length) (k:Weak n0 (pt fr t (.sl H.length 0 0 0)) (H++ [.elems S []]) fr' H'):Weak n0 fr H fr' H' :=
 (Weak.nil t S h hn).trans k
end Go.AM
namespace Go.AM
open Go.RowKit
section
variable {P : Program} {H : List Obj} {t : TypeId} {fr : List V}
def Jw (e:Option (Option Nat×Nat)) (c:Bool) (xs:List PV) (lo hi:V):Option V:=match e,lo,hi with
 | some (none,S),.p (.int _ a),.p (.int _ b)=>if Js S xs=true/\0<=a/\a<=b/\b<=xs.length then some (.p (.list (c&&decide (b=xs.length)) ((xs.take b.toNat).drop a.toNat))) else none
 | _,_,_=>none
def V.isInt : V->Option Int
 | .p (.int _ n)=>some n
 | _=>none
theorem V.isInt_some {x:V} {n} (h:x.isInt=some n): ∃k,x= .p (.int k n):=by
 unfold V.isInt at h;grind
theorem YR {d:Int} {x:Operand} :Bz d fr (some x)=(ev fr x).isInt:=rfl
theorem Qx {c xs k k' a b} :(VO P t c xs a b none).map .p=Jw (XO P t) c xs (.p (.int k a)) (.p (.int k' b)):=by
 simp only [VO,Jw]
 grind
theorem EN {e c xs lo hi} (h:lo.isInt=none):Jw e c xs lo hi=none:=by
 unfold Jw;grind [V.isInt]
theorem EM {e c xs lo hi} (h:hi.isInt=none):Jw e c xs lo hi=none:=by
 unfold Jw;grind [V.isInt]
@[go_sem] theorem bQ {c xs hi} :XB P H t fr (.p (.list c xs)) none (some hi) none=Jw (XO P t) c xs (.p (.int .i64 0)) (ev fr hi):=by
 simp only [XB,YR]
 cases h:(ev fr hi).isInt with
 | none=>simp [Bz,EM h]
 | some n=>obtain ⟨k,e⟩:=V.isInt_some h;rw [e,<- Qx];rfl
@[go_sem] theorem bR {c xs lo} :XB P H t fr (.p (.list c xs)) (some lo) none none=Jw (XO P t) c xs (ev fr lo) (.p (.int .i64 (List.length xs))):=by
 simp only [XB,YR]
 cases h:(ev fr lo).isInt with
 | none=>simp [EN h]
 | some n=>obtain ⟨k,e⟩:=V.isInt_some h;rw [e,<- Qx];rfl
@[go_sem] theorem OE {c xs lo hi} :XB P H t fr (.p (.list c xs)) (some lo) (some hi) none=Jw (XO P t) c xs (ev fr lo) (ev fr hi):=by
 simp only [XB,YR]
 cases h:(ev fr lo).isInt with
 | none=>simp [EN h]
 | some n =>
  cases h2:(ev fr hi).isInt with
  | none=>simp [EM h2]
  | some m=>grind [V.isInt_some,Qx]
@[go_sem] theorem iX {α:Type} {f:α->PV} {l:List α} {S c k k' a b} (h0:0<=a) (h1:a<=b) (h2:b<=(l.length:Int)) :
  Jw (some (none,S)) c (l.map f) (.p (.int k a)) (.p (.int k' b))=if Js S (l.map f)=true then some (.p (.list (c&&decide (b=l.length)) (((l.take b.toNat).drop a.toNat).map f))) else none:=by
 simp_all [Jw]
end
def BG (P:Program) (d:Option TypeDesc) (x i:V):Option V :=
 match d,x,i with
 | some .string,.p (.str s),.p (.int _ n)=>if 0<=n then (s[n.toNat]?).map fun b=> .p (.int .u8 b.toNat) else none
 | some (.array k e),.p (.agg cs),.p (.int _ n)=>if 0<=n/\n<k then (match XA P e with | some m=>(apart P e cs (n.toNat*m)).map .p | none=>none) else none
 | _,_,_=>none
@[go_sem] theorem qI {P:Program} {t:TypeId} {x i:V} :BH P t x i=BG P (P.underlying t) x i:=Eq.trans rfl rfl
@[go_sem] theorem bA {P:Program} {s:List UInt8} {k n} (h0:0<=n) (h1:n<(s.length:Int)):BG P (some .string) (.p (.str s)) (.p (.int k n))=some (.p (.int .u8 ((nth s n.toNat).toNat:Nat))):=by
 grind [BG,Zi]
def Qv (d:Option TypeDesc) (s:List UInt8) (lo hi:V):Option V:=match d,lo,hi with
 | some .string,.p (.int _ a),.p (.int _ b)=>if 0<=a/\a<=b/\b<=s.length then some (.p (.str ((s.take b.toNat).drop a.toNat))) else none
 | _,_,_=>none
theorem EL {d s lo hi} (h:lo.isInt=none):Qv d s lo hi=none:=by
 unfold Qv;grind [V.isInt]
theorem EK {d s lo hi} (h:hi.isInt=none):Qv d s lo hi=none:=by
 unfold Qv;grind [V.isInt]
section
variable {P : Program} {H : List Obj} {t : TypeId} {fr : List V}
theorem Qw {s:List UInt8} {k k' a b} :(match P.underlying t with | some .string=>(if 0<=a/\a<=b/\b<=(s.length:Int) then some (V.p (.str ((s.take b.toNat).drop a.toNat))) else none) | _=>none)=Qv (P.underlying t) s (.p (.int k a)) (.p (.int k' b)):=by
 simp only [Qv]
 grind
@[go_sem] theorem PG {s hi} :XB P H t fr (.p (.str s)) none (some hi) none=Qv (P.underlying t) s (.p (.int .i64 0)) (ev fr hi):=by
 simp only [XB,YR]
 cases h:(ev fr hi).isInt with
 | none=>grind [EK]
 | some n =>
  grind [V.isInt_some,Qw,Bz]
@[go_sem] theorem PH {s lo} :XB P H t fr (.p (.str s)) (some lo) none none=Qv (P.underlying t) s (ev fr lo) (.p (.int .i64 (List.length s))):=by
 simp only [XB,YR]
 cases h:(ev fr lo).isInt with
 | none=>grind [EL]
 | some n =>
  grind [V.isInt_some,Qw,Bz]
@[go_sem] theorem MF {s lo hi} :XB P H t fr (.p (.str s)) (some lo) (some hi) none=Qv (P.underlying t) s (ev fr lo) (ev fr hi):=by
 simp only [XB,YR]
 cases h:(ev fr lo).isInt with
 | none=>rw [EL h];simp
 | some n =>
  cases h2:(ev fr hi).isInt with
  | none=>rw [EK h2];simp
  | some m =>
   grind [V.isInt_some,Qw]
@[go_sem] theorem qP {s:List UInt8} {k k' a b} (h0:0<=a) (h1:a<=b) (h2:b<=(s.length:Int)):Qv (some .string) s (.p (.int k a)) (.p (.int k' b))=some (.p (.str ((s.take b.toNat).drop a.toNat))):=by
 simp_all [Qv]
end
@[go_sem low] theorem Ht {H:List Obj} {S b xs ys o n} :Wc H (some (S,b)) (.elems S xs) o n (some ys)=if xs.length=n/\Q8 S ys=true/\(n+ys.length)*b<=140737488355328/\n+ys.length<=140737488355328 then some (.sl o 0 (n+ys.length) (n+ys.length),J6 H o (.elems S (xs++ys))) else none:=by simp [Wc]
@[go_sem] theorem tY {H:List Obj} {n f a b f' a' b'} :Kz H n (.fn f a b) (.fn f' a' b')=((f'=f/\a'=a/\b'=b)/\refB n (.fn f a b)=true):=by simp [Kz,Mp]
@[go_sem] theorem sM {n f a b} :refB n (.fn f a b)=(ZE n a&&ZE n b):=by simp [refB]
@[go_sem] theorem vU {n x} :refB n (.p x)=true:=by simp [refB]
@[go_sem] theorem oF {n o off} :refB n (.ptr o off)=decide (o<n):=by simp [refB]
@[go_sem] theorem dE {n} :ZE n []=true:=by simp [ZE]
@[go_sem] theorem TR {n x l} :ZE n (x::l)=(refB n x&&ZE n l):=by simp [ZE]
theorem ACalls.useH {P g args H} {v:V} {H2:List Obj} {K:V->List Obj->Prop} (h:ACalls P g args H fun x H'=>x=v/\H'=H2) (k:K v H2):ACalls P g args H K :=
 h.mono (by grind)
theorem UK {α:Type} {f:α->PV} {S:Nat} (h: ∀x,(f x).cells.length=S) (l:List α):Js S (l.map f)=true:=by
 cases l with
 | nil=>rfl
 | cons x l=>simp [Js,h]
def Wp (F:Option (Nat×Nat×PV)) (H:List Obj) (x y:V):Option (V×List Obj):=match F,x,y with
 | some (S,by',z),.p (.int .i64 n),.p (.int .i64 m)=>if n=m/\0<=n/\(by':Int)*n<=281474976710656/\n<=281474976710656 then some (.sl H.length 0 n.toNat n.toNat,H++ [.elems S (List.replicate n.toNat z)]) else none
 | _,_,_=>none
theorem Jt {P:Program} {t:TypeId} {fr:List V} {H:List Obj} {x y:Operand} {F} (h:Af P t=some F):Yg P (.makeSlice t x y) fr H=Wp (some F) H (ev fr x) (ev fr y):=by
 unfold Af at h
 split at h
 ·rename_i e hu
  split at h
  ·rename_i S' z' b h1 h2 h3
   split at h
   ·rename_i hc;simp at h;subst h
    have h3':(P.info? e).map (fun x=>(x.bytes:Int))=some (b:Int):=by
     cases hi:P.info? e with
     | none=>grind
     | some i=>grind
    simp only [Yg,hu,h2,hc.1,if_true,EF,h1,h3'];generalize ev fr x=X;generalize ev fr y=Y
    by_cases hX: ∃n,X= .p (.int .i64 n)
    ·obtain ⟨n,rfl⟩:=hX
     by_cases hY: ∃m,Y= .p (.int .i64 m)
     ·obtain ⟨m,rfl⟩:=hY;simp [Wp,hc.2]
     ·have e1:Wp (some (S',b,z')) H (.p (.int .i64 n)) Y=none:=by
       unfold Wp;grind
      grind
    ·have e1:Wp (some (S',b,z')) H X Y=none:=by
      unfold Wp;grind
     grind
   ·cases h
  ·cases h
 ·cases h
@[go_sem] theorem bH {H:List Obj} {S b:Nat} {z n} (h0:0<=n) (h1:(b:Int)*n<=281474976710656) (h2:n<=281474976710656):Wp (some (S,b,z)) H (.p (.int .i64 n)) (.p (.int .i64 n))=some (.sl H.length 0 n.toNat n.toNat,H++ [.elems S (List.replicate n.toNat z)]):=by
 simp_all [Wp]
theorem TJ (x y:Nat) (hx:x<9223372036854775808) (hy:y<9223372036854775808):IntKind.i64.wrap ((BitVec.ofInt 64 (x:Int)|||BitVec.ofInt 64 (y:Int)).toNat:Int)=((x|||y:Nat):Int):=by
 have e:(BitVec.ofInt 64 (x:Int)|||BitVec.ofInt 64 (y:Int)).toNat=x|||y:=by
  grind
 have h:x|||y<2^63:=Nat.or_lt_two_pow Za Za
 grind [IntWalk.i64_in]
@[go_sem high] theorem Hg {P:Program} {t:TypeId} {x y:Nat} (hx:x<9223372036854775808) (hy:y<9223372036854775808):Xf P .or t (.p (.int .i64 (x:Int))) (.p (.int .i64 (y:Int)))=some (.int .i64 ((x|||y:Nat):Int)):=by
 rw [EC];exact congrArg (fun q=>some (PV.int .i64 q)) (TJ x y hx hy)
def pw (k:Nat):Nat:=2^k
theorem LF {k m:Nat} (h:k<=m):pw k<=pw m:=Nat.pow_le_pow_right Za h
theorem LD : pw 62=4611686018427387904:=by decide
@[go_sem high] theorem aL {P:Program} {t:TypeId} {k'} {a:Int} (h0:0<=a) (h1:a<=62):Xf P .shl t (.p (.int .i64 1)) (.p (.int k' a))=some (.int .i64 ((pw a.toNat:Nat):Int)):=by
 rw [Hh h0]
 have h2:min a.toNat IntKind.i64.bits=a.toNat:=by show min a.toNat 64=a.toNat;omega
 rw [h2,Int.one_mul]
 have h3:((2:Int)^a.toNat)=((pw a.toNat:Nat):Int):=by simp [pw]
 rw [h3];have:=LF (show a.toNat<=62 by omega)
 grind [LD,IntWalk.i64_in]
attribute [go_sem] List.length_append List.map_append not_false_eq_true not_true_eq_false false_and and_false true_or or_true false_or or_false Classical.not_not Bool.false_eq_true Bool.and_false Bool.false_and
end Go.AM
namespace Go.AM
open Go.RowKit
theorem E7 {P ds frJ H} {K K':List V->Prop} : ∀(l:List Oper) (i:Nat) (vals:List V),(∀ys,ys.length=vals.length+l.length->K ys->K' ys)->hd P ds frJ H K i l vals->hd P ds frJ H K' i l vals
 | [],i,vals,hk,h=>hk vals rfl h
 | o::l,i,vals,hk,h=>by
  have ih: ∀y,hd P ds frJ H K (i+1) l (vals++ [y])->hd P ds frJ H K' (i+1) l (vals++ [y]):=fun y=>E7 l (i+1) (vals++ [y]) fun ys hy=>hk ys (by simp at hy ⊢;omega);simp only [hd] at h ⊢
  split at h
  ·obtain ⟨y,h1,h2⟩:=h;exact ⟨y,h1,ih y h2⟩
  ·unfold ZT at h ⊢
   split at h
   ·exact ⟨fun e=>by obtain ⟨y,h1,h2⟩:=h.1 e;exact ⟨y,h1,ih y h2⟩,fun e=>ih _ (h.2 e)⟩
   ·exact ih _ h
   ·exact h.elim
def Z7 : List (Option Nat)->List V->List V->List V
 | some d::ds,v::vals,fr=>Z7 ds vals (pt fr d v)
 | none::ds,_::vals,fr=>Z7 ds vals fr
 | _,_,fr=>fr
def M7 (A:V->Prop) (B:V->Prop):Prop:= ∃y,A y/\B y
section
variable {P : Program} {ds : List (Option Nat)} {frJ : List V} {H : List Obj} {K : List V -> Prop} {i : Nat} {r : List Oper} {vals : List V} {d : Option Nat} {op : Op} {t : TypeId} {ps : String} {af : Array Edge}
@[go_sem ↓, go_sem] theorem uQ {v:V} {B:V->Prop} {t} :M7 (fun y=>v=y) (Zp B t)=B v:=by simp [M7,Zp]
def E9 (ds:List (Option Nat)) (vals:List V) (l:List Nat) (fr:List V) (a:Option (Option Nat)) (v:Option V):List V:=match a,v with
 | some (some d),some v=>Zx ds vals l (pt fr d v)
 | _,_=>Zx ds vals l fr
theorem Zn {f azs} {z:PV} {B:V->Prop} {t} (h:ACalls P f azs [] fun x H'=>x= .p z/\H'= []) (k:B (.p z)) (ha:ZE 0 azs=true:=by rfl) :
  M7 (fun y=>ACalls P f azs H (Zp (Zp (fun x H'=>x=y/\H'=H) ⟨⟩) ⟨⟩)) (Zp B t) :=
 ⟨.p z,h.use ⟨rfl,rfl⟩ ha,k⟩
end
section
variable {P : Program} {fr : List V} {H : List Obj} {k : V -> List Obj -> Prop} {d : Option Nat} {t : TypeId} {ps : String} {af : Array Edge} {g : Option (Nat × Bool)}
@[go_sem ↓] theorem PL {u n l} :Zs P ⟨d,.buildSlice u n (List.toArray l),t,ps,af,g⟩ fr H k=KD ((EE (WZ P u) H n (l.map fun x=>(x.1,ev fr x.2))).map .p) (Zp (fun v=>k v H) ⟨⟩):=by
 grind [Zs,KD,Zp]
@[go_sem] theorem Po {S n l} :EE (some S) H n l=if n=l.length/\n*S<=16777216/\0<S then (WJ H S 0 l).map (.list false) else none:=Eq.trans rfl rfl
@[go_sem ↓] theorem OH {x} :Zs P ⟨d,.move x,t,ps,af,g⟩ fr H k=Zo P ⟨d,.move x,t,ps,af,g⟩ fr H k:=rfl
@[go_sem ↓] theorem Mk {x} :Zs P ⟨d,.assign x,t,ps,af,g⟩ fr H k=Zo P ⟨d,.assign x,t,ps,af,g⟩ fr H k:=rfl
@[go_sem ↓] theorem OI {x y z} :Zs P ⟨d,.pick x y z,t,ps,af,g⟩ fr H k=Zo P ⟨d,.pick x y z,t,ps,af,g⟩ fr H k:=rfl
@[go_sem ↓] theorem MG {x} :Zs P ⟨d,.alloc x,t,ps,af,g⟩ fr H k=Zo P ⟨d,.alloc x,t,ps,af,g⟩ fr H k:=rfl
@[go_sem ↓] theorem PJ {x y} :Zs P ⟨d,.box x y,t,ps,af,g⟩ fr H k=Zo P ⟨d,.box x y,t,ps,af,g⟩ fr H k:=rfl
@[go_sem ↓] theorem MI {x y} :Zs P ⟨d,.build x y,t,ps,af,g⟩ fr H k=Zo P ⟨d,.build x y,t,ps,af,g⟩ fr H k:=rfl
@[go_sem ↓] theorem OG {x y} :Zs P ⟨d,.load x y,t,ps,af,g⟩ fr H k=Zo P ⟨d,.load x y,t,ps,af,g⟩ fr H k:=rfl
@[go_sem ↓] theorem MM {x y z} :Zs P ⟨d,.store x y z,t,ps,af,g⟩ fr H k=Zo P ⟨d,.store x y z,t,ps,af,g⟩ fr H k:=rfl
@[go_sem ↓] theorem G8 {x} :Zs P ⟨d,.nilCheck x,t,ps,af,g⟩ fr H k=Zo P ⟨d,.nilCheck x,t,ps,af,g⟩ fr H k:=rfl
@[go_sem ↓] theorem MH {x y z u v} :Zs P ⟨d,.binOp x y z u v,t,ps,af,g⟩ fr H k=Zo P ⟨d,.binOp x y z u v,t,ps,af,g⟩ fr H k:=rfl
@[go_sem ↓] theorem OJ {x y z} :Zs P ⟨d,.unOp x y z,t,ps,af,g⟩ fr H k=Zo P ⟨d,.unOp x y z,t,ps,af,g⟩ fr H k:=rfl
@[go_sem ↓] theorem Hy {x y z} :Zs P ⟨d,.convert x y z,t,ps,af,g⟩ fr H k=Zo P ⟨d,.convert x y z,t,ps,af,g⟩ fr H k:=rfl
@[go_sem ↓] theorem G7 {x y z} :Zs P ⟨d,.makeFunc x y z,t,ps,af,g⟩ fr H k=Zo P ⟨d,.makeFunc x y z,t,ps,af,g⟩ fr H k:=rfl
@[go_sem ↓] theorem F2 {x y z} :Zs P ⟨d,.makeSlice x y z,t,ps,af,g⟩ fr H k=Zo P ⟨d,.makeSlice x y z,t,ps,af,g⟩ fr H k:=rfl
@[go_sem ↓] theorem ML {x y z u v} :Zs P ⟨d,.slice x y z u v,t,ps,af,g⟩ fr H k=Zo P ⟨d,.slice x y z u v,t,ps,af,g⟩ fr H k:=rfl
@[go_sem ↓] theorem FZ {x y z} :Zs P ⟨d,.fieldAddr x y z,t,ps,af,g⟩ fr H k=Zo P ⟨d,.fieldAddr x y z,t,ps,af,g⟩ fr H k:=rfl
@[go_sem ↓] theorem MJ {x y z} :Zs P ⟨d,.field x y z,t,ps,af,g⟩ fr H k=Zo P ⟨d,.field x y z,t,ps,af,g⟩ fr H k:=rfl
@[go_sem ↓] theorem F1 {x y z} :Zs P ⟨d,.indexAddr x y z,t,ps,af,g⟩ fr H k=Zo P ⟨d,.indexAddr x y z,t,ps,af,g⟩ fr H k:=rfl
@[go_sem ↓] theorem MK {x y z} :Zs P ⟨d,.index x y z,t,ps,af,g⟩ fr H k=Zo P ⟨d,.index x y z,t,ps,af,g⟩ fr H k:=rfl
@[go_sem ↓] theorem Hz {x y} :Zs P ⟨d,.extract x y,t,ps,af,g⟩ fr H k=Zo P ⟨d,.extract x y,t,ps,af,g⟩ fr H k:=rfl
@[go_sem ↓] theorem OF {x y z} :Zs P ⟨d,.call ⟨.value x,y,z⟩,t,ps,af,g⟩ fr H k=Zo P ⟨d,.call ⟨.value x,y,z⟩,t,ps,af,g⟩ fr H k:=rfl
@[go_sem ↓] theorem PK {y z} :Zs P ⟨d,.call ⟨.builtin .len,y,z⟩,t,ps,af,g⟩ fr H k=Zo P ⟨d,.call ⟨.builtin .len,y,z⟩,t,ps,af,g⟩ fr H k:=rfl
@[go_sem ↓] theorem PM {y z} :Zs P ⟨d,.call ⟨.builtin .max,y,z⟩,t,ps,af,g⟩ fr H k=Zo P ⟨d,.call ⟨.builtin .max,y,z⟩,t,ps,af,g⟩ fr H k:=rfl
@[go_sem ↓] theorem PN {y z} :Zs P ⟨d,.call ⟨.builtin .min,y,z⟩,t,ps,af,g⟩ fr H k=Zo P ⟨d,.call ⟨.builtin .min,y,z⟩,t,ps,af,g⟩ fr H k:=rfl
theorem AL {o fr' H'} (h:fr=fr') (h2:H=H'):Zs P o fr H k=Zs P o fr' H' k:=by rw [h,h2]
end
attribute [congr] AL
attribute [go_sem] List.filter_cons List.filter_nil
end Go.AM
namespace Go.AM
open Go.RowKit
mutual
/-- no memory in it -/
def DH : PV->Bool
 | .list _ xs=>xs.isEmpty
 | .agg cs=>Cd cs
 | _=>true
def Cd : List PV->Bool
 | []=>true
 | x::l=>DH x&&Cd l
end
theorem VR : ∀ {l:List PV},Cd l=true-> ∀(j:Nat) (x:PV),l[j]? =some x->DH x=true
 | [],_,j,x,h=>by simp at h
 | y::l,hh,j,x,h=>by
  simp [Cd] at hh
  cases j with
  | zero=>simp at h;subst h;exact hh.1
  | succ j=>exact VR hh.2 j x (by simpa using h)
theorem RP.anywhere {X X':Nat->Prop} {w w' x v} (h:RP X w x v) (hf:DH x=true):RP X' w' x v:=by
 induction h with
 | int k n=>exact .int k n
 | bool b=>exact .bool b
 | str s=>exact .str s
 | nilp=>exact .nilp
 | nili=>exact .nili
 | nilf=>exact .nilf
 | nilm=>exact .nilm
 | fn f=>exact .fn f
 | nils cl=>exact .nils cl
 | emp cl a cap hc hm ha=>exact .emp cl a cap hc hm ha
 | list cl xs b off cap S u hX hb hc hm hcl hS hu hr ih =>
  have:xs= []:=by grind [DH]
  subst this;exact .emp cl _ cap (fun h=>by grind) hm (fun _ x hx=>by grind)
 | agg cs a hs _ ih=>exact .agg cs a hs fun j c hj=>ih j c hj (VR (by grind [DH]) j c hj)
def vw (H:List Obj):V->Option V
 | .p x=>some (.p x)
 | .fn f [] []=>some (.fn f [] [])
 | .sl o off len tot=>match oat H o with
  | .elems _ xs=>if xs.length=tot/\off+len<=tot then some (.p (.list false ((xs.take (off+len)).drop off))) else none
  | _=>none
 | _=>none
def aB (H:List Obj):List V->Option (List V)
 | []=>some []
 | x::l=>match vw H x,aB H l with | some y,some ys=>some (y::ys) | _,_=>none
abbrev KE : Nat->Prop:=fun _=>False
theorem U7 {b:Nat} : ¬Own KE [] b:=by simp [Own]
theorem oI {F H ι w x v y} (hr:Rel F H ι w) (h:RV F H ι w x v) (hy:vw H x=some y):RV KE [] [] w y v:=by
 unfold vw at hy
 split at hy
 ·simp at hy;subst hy
  cases h with | p _ _ h=>exact .p _ _ (h.weaker fun b hb=>absurd hb U7)
 ·simp at hy;subst hy;generalize v=u at h
  cases h with
  | fn _ _ _ a e hs ht _ _=>exact .fn _ [] [] a e hs ht (fun j c hj=>by simp at hj) (fun j c hj=>by simp at hj)
 ·rename_i o off len tot
  split at hy
  ·rename_i S xs ho
   split at hy
   ·rename_i hc;simp at hy;subst hy;exact .p _ _ (UB _ (fun b _ hb=>U7 hb) (fun b _ hs=>⟨U7,hs,rfl⟩) hr (ZI ho Zb) hc.1 hc.2 h)
   ·cases hy
  ·cases hy
 ·cases hy
theorem FK {H} : ∀ {l l':List V},aB H l=some l'->l'.length=l.length/\ ∀(j:Nat) (y:V),l'[j]? =some y-> ∃x,l[j]? =some x/\vw H x=some y
 | [],l',h=>by simp [aB] at h;grind
 | x::l,l',h=>by
  simp only [aB] at h
  split at h
  ·rename_i y ys h1 h2;simp at h;subst h;obtain ⟨e,hg⟩:=FK h2;refine ⟨by simp [e],fun j z hj=> ?_⟩
   cases j with
   | zero=>simp at hj;subst hj;exact ⟨x,Zb,h1⟩
   | succ j=>obtain ⟨q,q1,q2⟩:=hg j z (by simpa using hj);exact ⟨q,by simpa using q1,q2⟩
  ·cases h
theorem Good.lift {F H ι w H1 ι1 w'} (hr:Rel F H ι w) (g:Good KE [] [] w H1 ι1 w') (h1: ∀(o:Nat) (ob:Obj),H1[o]? =some ob-> ∃S xs,ob= .elems S xs/\Cd xs=true):Good (Own F ι) [] [] w H1 ι1 w':=by
 have hnew: ∀b,some b∈ι1-> ¬b<w.heap.size:=fun b hb hlt=>g.own b hlt Zb hb
 have hold: ∀b,Own F ι b->b<w.heap.size:=fun b hb=>by
  rcases hb with hb | hb
  ·exact hr.fin b hb
  ·obtain ⟨i,hi⟩:=List.mem_iff_getElem?.1 hb;exact (hr.avo i b hi).2
 refine Good.up hr.env.fresh ⟨⟨g.rel.len,fun b hb=>by have:=hold b hb;have:=g.size;omega,g.rel.inj,fun i b hi=> ?_,fun o cs ho=> ?_,fun o S xs ho=> ?_,fun o es ho=>(by grind),fun o T E r bs ho=>(by grind)⟩,g.os,g.tape,g.output,g.shape,g.size,g.keep,g.own,g.hx⟩
 ·refine ⟨fun hb=>hnew b (List.mem_of_getElem? hi) (hold b hb),(g.rel.avo i b hi).2⟩
 ·grind
 ·rcases g.rel.elm o S xs ho with e | ⟨b,c,t,cap,e1,e2,e3,e4,e5,e6,e7⟩
  ·exact .inl e
  ·refine .inr ⟨b,c,t,cap,e1,e2,e3,e4,e5,e6,fun i x j y hi hj=> ?_⟩;obtain ⟨S',xs',e,hf⟩:=h1 o _ ho;simp at e;obtain ⟨rfl,rfl⟩:=e;have hx:=VR hf i x hi;refine (e7 i x j y hi hj).anywhere ?_
   cases x<;>simp only [PV.cells] at hj
   case agg cs=>grind [VR,DH]
   all_goals (cases j with
    | zero=>simp at hj;subst hj;exact hx
    | succ j=>simp at hj)
theorem CH {w:World} (he:Env KE [] w):Rel KE [] [] w:=⟨⟨rfl,fun b hb=>hb.elim,fun i j b hi=>by simp at hi,fun i b hi=>by simp at hi,fun o cs ho=>by simp at ho,fun o S xs ho=>by simp at ho,fun o es ho=>by simp at ho,fun o T E r bs ho=>by simp at ho⟩,he⟩
theorem ACalls.view {P g args args'} {y:PV} {H:List Obj} {K:V->List Obj->Prop} (h:ACalls P g args' [] fun x H'=>x= .p y/\H'= []) (hv:aB H args=some args') (hy:DH y=true) (k:K (.p y) H):ACalls P g args H K:=by
 refine ⟨h.1,fun F ι w vs hr hvs=> ?_⟩;obtain ⟨e,hg⟩:=FK hv;refine (h.2 KE [] w vs (CH hr.env.noth) ⟨by rw [hvs.1,e],fun j c hj=> ?_⟩).mono ?_
 ·obtain ⟨x,h1,h2⟩:=hg j c hj;exact oI hr (hvs.2 j x h1) h2
 ·rintro e w' ⟨x,H',ι',v,rfl,⟨rfl,rfl⟩,gd,rv⟩;have g2:=(gd.lift hr (fun o ob ho=>by simp at ho)).behind hr;have hι:ι'= []:=List.eq_nil_of_length_eq_zero gd.rel.len;subst hι;simp only [List.map_nil,List.append_nil] at g2
  cases rv with | p _ _ rp =>
  exact ⟨_,H,ι,v,rfl,k,g2,.p _ _ (rp.anywhere hy)⟩
def zG (H:List Obj):V->Option PV
 | .p x=>some x
 | .sl o off len tot=>match oat H o with
  | .elems _ xs=>if xs.length=tot/\off+len<=tot then some (.list false ((xs.take (off+len)).drop off)) else none
  | _=>none
 | _=>none
def zH (H:List Obj):List V->Option (List PV)
 | []=>some []
 | x::l=>match zG H x,zH H l with | some y,some ys=>some (y::ys) | _,_=>none
def rd (H:List Obj):V->Option PV
 | .agg cs=>(zH H cs).map .agg
 | x=>zG H x
@[go_sem] theorem qK {o off len tot r} :Wo (.sl o off len tot::r)=none:=Eq.trans rfl rfl
attribute [go_sem] Option.map_none
end Go.AM
namespace Go.Proofs.YtmbelkfkhclnkaaGreatDoor.K
open Go Go.AM
def Val (n:Nat) (be:List (Int×Int)):Prop:= ∀p∈be,0<=p.1/\p.1<n/\0<=p.2/\p.2<n
theorem Es (a b:Nat):(pw a).testBit b=decide (a=b):=by grind [pw]
def tot (l:List Nat):Nat:=l.foldr (· + ·) 0
end Go.Proofs.YtmbelkfkhclnkaaGreatDoor.K
