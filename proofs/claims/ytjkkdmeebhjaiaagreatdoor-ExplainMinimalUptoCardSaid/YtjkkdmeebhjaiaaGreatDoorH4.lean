/- Declarations that the closing texts need, part 4: joined by tools/slim.py. -/
import Derived.Test.YtjkkdmeebhjaiaaGreatDoorH3
set_option linter.unusedVariables false
set_option linter.unusedSimpArgs false
universe u
namespace Go.AM
open Go.RowKit
structure Tk {α:Sort u} (a:α):Type where
def Zw {α:Sort u} (a:α) (_:Tk a):α:=a
@[go_sem] theorem ZfE {α β:Type} {f:α->β} {t x} :Zw f t x=f x:=Zm rfl rfl
@[go_sem ↓] theorem ZfF {α β:Type} {f:α->β->Prop} {t x y} :Zw f t x y=f x y:=Zm rfl rfl
@[go_sem ↓] theorem ZfG {α β γ:Type} {f:α->β->γ->Prop} {t x y z} :Zw f t x y z=f x y z:=Zm rfl rfl
def BN (x:Option V) (K:V->Prop):Prop:=match x with | some v=>K v | none=>False
def Bq (x:Option (V×List Obj)) (K:V->List Obj->Prop):Prop:=match x with | some (v,H)=>K v H | none=>False
def bst (x:V) (K:Bool->Prop):Prop:=match x with | .p (.bool b)=>K b | _=>False
def hst (x:Option (List Obj)) (K:List Obj->Prop):Prop:=match x with | some H=>K H | none=>False
@[go_sem ↓, go_sem] theorem ZkK {v K} :BN (some v) K=K v:=Zm rfl rfl
@[go_sem ↓, go_sem] theorem Zkq {v H K} :Bq (some (v,H)) K=K v H:=Zm rfl rfl
@[go_sem ↓, go_sem] theorem Zi0 {H K} :hst (some H) K=K H:=Zm rfl rfl
@[congr] theorem ZfY {x x' K} (h:x=x'):BN x K=BN x' K:=by rw [h]
@[congr] theorem ZfR {x x' K} (h:x=x'):Bq x K=Bq x' K:=by rw [h]
@[congr] theorem ZfJ {x x' K} (h:x=x'):hst x K=hst x' K:=by rw [h]
def LI (fr:List V):List V:=fr
@[go_sem] theorem Zor {fr} :LI fr=fr:=Zm rfl rfl
section code
variable {cuts : List Nat} {P : Program} {fr : List V} {H : List Obj} {Q : Exit -> List V -> List Obj -> Prop}
@[go_sem ↓] theorem Zfr : JZ cuts P .skip fr H Q=Q .normal fr H:=Zm rfl rfl
@[go_sem ↓] theorem xK {id} {l:List Oper} :JZ cuts P (.region id l.toArray false) fr H Q=YL P (l.map (·.dst)) l (LI fr) H (Zw (Q .normal) ⟨⟩):=by rfl
@[go_sem ↓] theorem Zao {id ops} :JZ cuts P (.region id ops true) fr H Q=AWP P (.region id (Zw ops ⟨⟩) true) fr H (Zw Q ⟨⟩):=by rfl
@[go_sem ↓] theorem Zir {x y} :JZ [] P (.seq x y) fr H Q=JZ [] P x fr H (QZ (fun fr H=>JZ [] P y fr H Q) Q):=by
 grind [JZ]
def oT (b:Bool) (A B:Prop):Prop:=if b then A else B
def Ng (cuts:List Nat):Option Nat->Bool
 | some i=>cuts.contains i
 | none=>false
@[go_sem ↓] theorem Zfq {k x y} :JZ (k::cuts) P (.seq x y) fr H Q=oT (Ng (k::cuts) (ND x)) (Zw (AWP P (.seq (Zw x ⟨⟩) (Zw y ⟨⟩)) fr H (Zw Q ⟨⟩)) ⟨⟩) (Zw (JZ (k::cuts) P x fr H (QZ (fun fr H=>JZ (k::cuts) P y fr H Q) Q)) ⟨⟩):=by
 rfl
@[go_sem ↓, go_sem] theorem Zf0 {A B:Prop} {t} :oT true (Zw A t) B=A:=by rfl
@[go_sem ↓, go_sem] theorem Zd6 {A B:Prop} {t} :oT false A (Zw B t)=B:=by rfl
theorem RJ {b b' A B} (h:b=b'):oT b A B=oT b' A B:=by rw [h]
@[go_sem ↓] theorem ZaT {id ops d} :ND (.region id ops d)=some id:=Zm rfl rfl
@[go_sem ↓] theorem ZmK {x y} :ND (.seq x y)=ND x:=Zm rfl rfl
@[go_sem ↓] theorem ZfD {id c} :ND (.block id c)=ND c:=Zm rfl rfl
@[go_sem ↓] theorem ZiV {c x y} :ND (.cond c x y)=none:=Zm rfl rfl
@[go_sem ↓] theorem ZiX {c} :ND (.loop c)=none:=Zm rfl rfl
@[go_sem] theorem ZaF : Ng cuts none=false:=Zm rfl rfl
@[go_sem] theorem Zfx {i} :Ng [] (some i)=false:=Zm rfl rfl
@[go_sem] theorem ZaE {k i} :Ng (k::cuts) (some i)=(decide (i=k)||Ng cuts (some i)):=by rfl
@[go_sem ↓] theorem Zfm {c x y} :JZ cuts P (.cond c x y) fr H Q=US (ev fr c) (Zw (JZ cuts P x fr H Q) ⟨⟩) (Zw (JZ cuts P y fr H Q) ⟨⟩):=Zm rfl rfl
@[go_sem ↓] theorem Zan {id c} :JZ cuts P (.block id c) fr H Q=JZ cuts P c fr H (Q8 id Q):=Zm rfl rfl
@[go_sem ↓] theorem Zfn {id} :JZ cuts P (.exit id) fr H Q=Q (.exit id) fr H:=Zm rfl rfl
@[go_sem ↓] theorem Ziq : JZ cuts P .ret fr H Q=Q .ret fr H:=Zm rfl rfl
@[go_sem ↓] theorem Zfp {c} :JZ cuts P (.loop c) fr H Q=AWP P (.loop (Zw c ⟨⟩)) fr H (Zw Q ⟨⟩):=Zm rfl rfl
@[go_sem ↓] theorem Zfo {c t} :JZ cuts P (Zw c t) fr H Q=JZ cuts P c fr H Q:=Zm rfl rfl
theorem aD {c fr' H'} (h:fr=fr') (h2:H=H'):JZ cuts P c fr H Q=JZ cuts P c fr' H' Q:=by rw [h,h2]
theorem TS {c fr' H'} (h:fr=fr') (h2:H=H'):AWP P c fr H Q=AWP P c fr' H' Q:=by rw [h,h2]
@[go_sem ↓] theorem wC {A:List V->List Obj->Prop} :QZ A Q .normal fr H=A fr H:=Zm rfl rfl
@[go_sem ↓] theorem Zef {A:List V->List Obj->Prop} {id} :QZ A Q (.exit id) fr H=Q (.exit id) fr H:=Zm rfl rfl
@[go_sem ↓] theorem Zhb {A:List V->List Obj->Prop} :QZ A Q .ret fr H=Q .ret fr H:=Zm rfl rfl
@[go_sem ↓] theorem qH {id} :Q8 id Q .normal fr H=Q .normal fr H:=Zm rfl rfl
@[go_sem ↓] theorem Zar {id} :Q8 id Q .ret fr H=Q .ret fr H:=Zm rfl rfl
@[go_sem ↓] theorem xN {id id'} :Q8 id Q (.exit id') fr H=if id'=id then Q .normal fr H else Q (.exit id') fr H:=Zm rfl rfl
theorem OR {A:List V->List Obj->Prop} {e fr' H'} (h:fr=fr') (h2:H=H'):QZ A Q e fr H=QZ A Q e fr' H':=by rw [h,h2]
theorem Ll {id e fr' H'} (h:fr=fr') (h2:H=H'):Q8 id Q e fr H=Q8 id Q e fr' H':=by rw [h,h2]
@[go_sem ↓] theorem yN {rs} {Q:V->List Obj->Prop} :BP P rs Q .normal fr H=Bq ((WA P fr H rs).map fun xs=>(Jm xs,H)) (Zw Q ⟨⟩):=by
 simp only [BP,Zw];grind [Bq]
@[go_sem ↓] theorem ZkP {rs} {Q:V->List Obj->Prop} :BP P rs Q .ret fr H=Bq ((WA P fr H rs).map fun xs=>(Jm xs,H)) (Zw Q ⟨⟩):=by
 simp only [BP,Zw];grind [Bq]
theorem RE {rs e fr' H'} {Q:V->List Obj->Prop} (h:fr=fr') (h2:H=H'):BP P rs Q e fr H=BP P rs Q e fr' H':=by rw [h,h2]
@[go_sem] theorem ZdZ : WA P fr H []=some []:=Zm rfl rfl
@[go_sem] theorem Zd0 {t l} :WA P fr H (.tmp t::l)=(WA P fr H l).map (gt fr t:: ·):=by
 simp only [WA,dM];cases WA P fr H l<;>rfl
@[go_sem] theorem yL {a t l} :WA P fr H (.cell a t::l)=(Js P H t (gt fr a)).bind fun x=>(WA P fr H l).map (x:: ·):=by
 simp only [WA,dM];cases Js P H t (gt fr a)<;>cases WA P fr H l<;>rfl
@[go_sem] theorem Zd1 {x} :Jm [x]=x:=Zm rfl rfl
@[go_sem] theorem yM : Jm []= .tup []:=Zm rfl rfl
@[go_sem] theorem RD {x y l} :Jm (x::y::l)= .tup (x::y::l):=Zm rfl rfl
end code
attribute [congr] RJ aD TS OR Ll RE
@[go_sem] theorem ZmI {x:V} {l} :gt (x::l) 0=x:=Zm rfl rfl
@[go_sem] theorem ZmH {x:V} {l n} :gt (x::l) (n+1)=gt l n:=Zm rfl rfl
@[go_sem] theorem Zoo {n} :gt [] n= .junk:=Zm rfl rfl
@[go_sem] theorem Zm4 {x v:V} {l} :pt (x::l) 0 v=v::l:=Zm rfl rfl
@[go_sem] theorem Zm3 {x v:V} {l n} :pt (x::l) (n+1) v=x::pt l n v:=Zm rfl rfl
@[go_sem] theorem ZkM {fr d v} :UG fr (some d) v=pt fr d v:=Zm rfl rfl
@[go_sem] theorem ZkL {fr v} :UG fr none v=fr:=Zm rfl rfl
@[go_sem] theorem Zkv {x:Obj} {l} :oat (x::l) 0=x:=Zm rfl rfl
@[go_sem] theorem Zku {x:Obj} {l n} :oat (x::l) (n+1)=oat l n:=Zm rfl rfl
@[go_sem] theorem ZkF {x v:Obj} {l} :Gx (x::l) 0 v=v::l:=Zm rfl rfl
@[go_sem] theorem ZkE {x v:Obj} {l n} :Gx (x::l) (n+1) v=x::Gx l n v:=Zm rfl rfl
@[go_sem] theorem Zmx {fr t} :evx fr (.tmp t)=gt fr t:=Zm rfl rfl
@[go_sem] theorem ZaL {fr g} :evx fr (.global g)=kR g:=Zm rfl rfl
@[go_sem] theorem Zod {fr t} :ev fr (.tmp t)=gt fr t:=Zm rfl rfl
@[go_sem] theorem Zmu {fr f} :ev fr (.func f)= .fn (.func f) [] []:=Zm rfl rfl
@[go_sem] theorem Zob {fr k n} :ev fr (.const (.int k n))= .p (.int k n):=Zm rfl rfl
@[go_sem] theorem Zmt {fr b} :ev fr (.const (.bool b))= .p (.bool b):=Zm rfl rfl
@[go_sem] theorem Zoc {fr s} :ev fr (.const (.string s))= .p (.str s.data.toList):=Zm rfl rfl
@[go_sem] theorem Zmw {fr} :ev fr (.const (.slice none 0 0))= .p (.list true []):=Zm rfl rfl
@[go_sem] theorem Zmv {fr} :ev fr (.const (.pointer none))= .p .nilp:=Zm rfl rfl
@[go_sem] theorem Zoa {fr l} :ev fr (.const (.agg (List.toArray l)))=match cvs l with | some xs=> .p (.agg xs) | none=> .junk:=Zm rfl rfl
@[go_sem] theorem ZiP {fr d} {l:List (Option Nat)} :F7 fr (some d::l) 0=gt fr d:=by simp [F7]
@[go_sem] theorem ZiO {fr o n} {l:List (Option Nat)} :F7 fr (o::l) (n+1)=F7 fr l n:=by simp [F7]
section ops
variable {P : Program} {fr : List V} {H : List Obj} {ds : List (Option Nat)} {K : List V -> List Obj -> Prop} {r : List Oper} {d : Option Nat} {t : TypeId} {ps : String} {af : Array Edge} {g : Option (Nat × Bool)} {k : V -> List Obj -> Prop}
theorem Pm {l fr' H'} (h:fr=fr') (h2:H=H'):YL P ds l fr H K=YL P ds l fr' H' K:=by rw [h,h2]
theorem MV {o fr' H'} (h:fr=fr') (h2:H=H'):Zz P o fr H k=Zz P o fr' H' k:=by rw [h,h2]
@[go_sem ↓] theorem Zie : YL P ds [] fr H K=K fr H:=Zm rfl rfl
@[go_sem] theorem Ze6 {op} :YL P ds (⟨d,op,t,ps,af,none⟩::r) fr H K=Zz P ⟨d,op,t,ps,af,none⟩ fr H (Zw (fun x H'=>YL P ds r (UG fr d x) H' K) ⟨⟩):=Zm rfl rfl
@[go_sem] theorem zO {op j b} :YL P ds (⟨d,op,t,ps,af,some (j,b)⟩::r) fr H K=XV (F7 fr ds j) b (Zw (Zz P ⟨d,op,t,ps,af,none⟩ fr H (Zw (fun x H'=>YL P ds r (UG fr d x) H' K) ⟨⟩)) ⟨⟩) (Zw (YL P ds r (UG fr d (.tup [])) H K) ⟨⟩):=by
 rfl
theorem XW {op:Op} (h:Wh op=none) (h2:Ve P op fr H=none):Zz P ⟨d,op,t,ps,af,g⟩ fr H k=BN (Xh P op fr H) fun x=>k x H:=by
 simp only [Zz,h,ME,h2]
 all_goals (cases Xh P op fr H<;>rfl)
theorem aB {op:Op} (h:Wh op=none) (h2:Xh P op fr H=none):Zz P ⟨d,op,t,ps,af,g⟩ fr H k=Bq (Ve P op fr H) k:=by
 grind [Zz,ME,Bq]
@[go_sem ↓] theorem Zai {x} :Zz P ⟨d,.move x,t,ps,af,g⟩ fr H k=k (ev fr x) H:=by rfl
@[go_sem ↓] theorem rU {x} :Zz P ⟨d,.assign x,t,ps,af,g⟩ fr H k=k (ev fr x) H:=by rfl
def vif (b:Bool) (x y:V):V:=if b then x else y
@[go_sem] theorem ZlI {x y} :vif true x y=x:=Zm rfl rfl
@[go_sem] theorem Zhc {x y} :vif false x y=y:=Zm rfl rfl
@[go_sem] theorem ZlH {b x y} :vif b (.p (.bool x)) (.p (.bool y))= .p (.bool (if b then x else y)):=by cases b<;>rfl
@[go_sem] theorem Zij {b} :zY (.p (.bool b))=some b:=Zm rfl rfl
@[go_sem ↓] theorem Zak {c x y} :Zz P ⟨d,.pick c x y,t,ps,af,g⟩ fr H k=BN ((zY (ev fr c)).map fun b=>vif b (ev fr x) (ev fr y)) (Zw (fun v=>k v H) ⟨⟩):=by
 rw [XW rfl rfl];simp only [Xh,Ye]
 cases zY (ev fr c)<;>rfl
@[go_sem ↓] theorem Zah {u x} :Zz P ⟨d,.load u x,t,ps,af,g⟩ fr H k=BN (Js P H u (ev fr x)) (Zw (fun v=>k v H) ⟨⟩):=by rw [XW rfl rfl];rfl
@[go_sem ↓] theorem gZ {x} :Zz P ⟨d,.nilCheck x,t,ps,af,g⟩ fr H k=BN (if WB H (ev fr x)||lH (ev fr x) then some (ev fr x) else none) (Zw (fun v=>k v H) ⟨⟩):=by rw [XW rfl rfl];rfl
@[go_sem ↓] theorem Zff {op u x y u2} :Zz P ⟨d,.binOp op u x y u2,t,ps,af,g⟩ fr H k=BN ((Yr P op u (ev fr x) (ev fr y)).map .p) (Zw (fun v=>k v H) ⟨⟩):=by rw [XW rfl rfl];rfl
@[go_sem ↓] theorem Zin {op u x} :Zz P ⟨d,.unOp op u x,t,ps,af,g⟩ fr H k=BN ((aun op (ev fr x)).map .p) (Zw (fun v=>k v H) ⟨⟩):=by rw [XW rfl rfl];rfl
def mQ (x y:Option PV):Option PV:=match x with | some z=>some z | none=>y
@[go_sem] theorem ZdF {z y} :mQ (some z) y=some z:=Zm rfl rfl
@[go_sem] theorem ZdE {y} :mQ none y=y:=Zm rfl rfl
@[go_sem ↓] theorem Zag {s u x} :Zz P ⟨d,.convert s u x,t,ps,af,g⟩ fr H k=BN ((mQ (Du P H s u (ev fr x)) (MK P s u (ev fr x))).map .p) (Zw (fun v=>k v H) ⟨⟩):=by
 rw [XW rfl rfl];simp only [Xh,Ye]
 cases Du P H s u (ev fr x)<;>rfl
@[go_sem ↓] theorem gY {f cs es} :Zz P ⟨d,.makeFunc f (List.toArray cs) (List.toArray es),t,ps,af,g⟩ fr H k=k (.fn f (cs.map (ev fr)) (es.map (ev fr))) H:=by rfl
@[go_sem ↓] theorem xI {u x lo hi mx} :Zz P ⟨d,.slice u x lo hi mx,t,ps,af,g⟩ fr H k=BN (Vn P H u fr (ev fr x) lo hi mx) (Zw (fun v=>k v H) ⟨⟩):=by rw [XW rfl rfl];rfl
@[go_sem ↓] theorem fD {s x f} :Zz P ⟨d,.fieldAddr s x f,t,ps,af,g⟩ fr H k=BN (JV P H s f (ev fr x)) (Zw (fun v=>k v H) ⟨⟩):=by rw [XW rfl rfl];rfl
@[go_sem ↓] theorem fE {u x i} :Zz P ⟨d,.indexAddr u x i,t,ps,af,g⟩ fr H k=BN (Q3 P H u (evx fr x) (ev fr i)) (Zw (fun v=>k v H) ⟨⟩):=by rw [XW rfl rfl];rfl
@[go_sem ↓] theorem xH {u x i} :Zz P ⟨d,.index u x i,t,ps,af,g⟩ fr H k=BN (MM P u (ev fr x) (ev fr i)) (Zw (fun v=>k v H) ⟨⟩):=by rw [XW rfl rfl];rfl
def axt (x:V) (i:Nat):Option V:=match x with | .tup vs=>vs[i]? | _=>none
@[go_sem] theorem Zmc {vs i} :axt (.tup vs) i=vs[i]? :=Zm rfl rfl
@[go_sem ↓] theorem qF {x i} :Zz P ⟨d,.extract x i,t,ps,af,g⟩ fr H k=BN (axt (ev fr x) i) (Zw (fun v=>k v H) ⟨⟩):=by
 rw [XW rfl rfl]
 rfl
@[go_sem ↓] theorem xG {u l} :Zz P ⟨d,.build u (List.toArray l),t,ps,af,g⟩ fr H k=BN (Fw P H u (l.map fun x=>(x.1,ev fr x.2))) (Zw (fun v=>k v H) ⟨⟩):=by rw [XW rfl rfl];rfl
@[go_sem ↓] theorem Zfh {x u} :Zz P ⟨d,.call ⟨.builtin .len,#[x],#[u]⟩,t,ps,af,g⟩ fr H k=BN ((gI P H u (ev fr x)).map .p) (Zw (fun v=>k v H) ⟨⟩):=by rw [XW rfl rfl];rfl
@[go_sem ↓] theorem Zfi {x y us} :Zz P ⟨d,.call ⟨.builtin .max,#[x,y],us⟩,t,ps,af,g⟩ fr H k=BN ((I6 false [ev fr x,ev fr y]).map .p) (Zw (fun v=>k v H) ⟨⟩):=by
 rw [XW rfl rfl];rfl
@[go_sem ↓] theorem xF {u} :Zz P ⟨d,.alloc u,t,ps,af,g⟩ fr H k=Bq ((Xl P u).map fun zs=>(.ptr H.length 0,H++ [.cells (zs.map .p)])) (Zw k ⟨⟩):=by rfl
@[go_sem ↓] theorem Zfg {u x} :Zz P ⟨d,.box u x,t,ps,af,g⟩ fr H k=Bq ((vc H (ev fr x)).map fun cs=>(.ptr H.length 0,H++ [.cells cs])) (Zw k ⟨⟩):=by rfl
def Zam (H:List Obj) (n:Option Nat) (a:V) (cs:Option (List V)):Option (List Obj):=n.bind fun n=>cs.bind fun cs=>By H n a cs
@[go_sem] theorem Zfk {n a cs} :Zam H (some n) a (some cs)=By H n a cs:=Zm rfl rfl
@[go_sem ↓] theorem xJ {u x y} :Zz P ⟨d,.store u x y,t,ps,af,g⟩ fr H k=hst (Zam H (Wa P u) (ev fr x) (vc H (ev fr y))) (Zw (k .junk) ⟨⟩):=by
 rw [aB rfl rfl];simp only [Ve,Zam]
 cases Wa P u<;>cases vc H (ev fr y)<;>simp [hst,Bq,Zw]
 grind
@[go_sem ↓] theorem aA {u n l} :Zz P ⟨d,.buildSlice u n (List.toArray l),t,ps,af,g⟩ fr H k=Bq (Ve P (.buildSlice u n (List.toArray l)) fr H) (Zw k ⟨⟩):=by rfl
@[go_sem ↓] theorem qG {u} :Zz P ⟨d,.makeMap u none,t,ps,af,g⟩ fr H k=k (.mp H.length) (H++ [.map []]):=by rfl
@[go_sem ↓] theorem rV {u x y ok} :Zz P ⟨d,.lookup u x y ok,t,ps,af,g⟩ fr H k=Bq (B8 P H u (ev fr x) (ev fr y) ok) (Zw k ⟨⟩):=by rfl
@[go_sem ↓] theorem Zaj {u x y z} :Zz P ⟨d,.mapUpdate u x y z,t,ps,af,g⟩ fr H k=Bq (Ek P H u (ev fr x) (ev fr y) (ev fr z)) (Zw k ⟨⟩):=by rfl
@[go_sem ↓] theorem fF {u x y} :Zz P ⟨d,.makeSlice u x y,t,ps,af,g⟩ fr H k=Bq (Ve P (.makeSlice u x y) fr H) (Zw k ⟨⟩):=by rfl
@[go_sem ↓] theorem rT {x y u u2} :Zz P ⟨d,.call ⟨.builtin .append,#[x,y],#[u,u2]⟩,t,ps,af,g⟩ fr H k=Bq (W9 P H u u2 (ev fr x) (ev fr y)) (Zw k ⟨⟩):=by rfl
@[go_sem ↓] theorem Zaf {f azs ts} :Zz P ⟨d,.call ⟨.value f,List.toArray azs,ts⟩,t,ps,af,g⟩ fr H k=Ej P (ev fr f) (azs.map (ev fr)) H (Zw k ⟨⟩):=Zm rfl rfl
@[go_sem ↓] theorem Zh3 {f fs cs azs} :Ej P (.fn (.func f) fs cs) azs H k=ACalls P f (fs++azs++cs) H k:=Zm rfl rfl
@[go_sem ↓] theorem ZeI {f azs} :Ej P (.p (.fn f)) azs H k=ACalls P f azs H k:=Zm rfl rfl
theorem MI {f f' azs as'} (h:f=f') (h2:azs=as'):Ej P f azs H k=Ej P f' as' H k:=by rw [h,h2]
theorem IX {f azs as' H'} (h2:azs=as') (h3:H=H'):ACalls P f azs H k=ACalls P f as' H' k:=by rw [h2,h3]
theorem MJ {x x' A B} (h:x=x'):US x A B=US x' A B:=by rw [h]
theorem I3 {x x' b A B} (h:x=x'):XV x b A B=XV x' b A B:=by rw [h]
@[go_sem ↓, go_sem] theorem zB {A:Prop} {t B'} :US (.p (.bool true)) (Zw A t) B'=A:=by simp [US,Zw]
@[go_sem ↓, go_sem] theorem wT {B:Prop} {t B'} :US (.p (.bool false)) B' (Zw B t)=B:=by simp [US,Zw]
@[go_sem ↓, go_sem] theorem ZeS {A:Prop} {t B} :XV (.p (.bool true)) true (Zw A t) B=A:=by simp [XV,Zw]
@[go_sem ↓, go_sem] theorem ZeR {B:Prop} {t A} :XV (.p (.bool true)) false A (Zw B t)=B:=by simp [XV,Zw]
@[go_sem ↓, go_sem] theorem ZeQ {B:Prop} {t A} :XV (.p (.bool false)) true A (Zw B t)=B:=by simp [XV,Zw]
@[go_sem ↓, go_sem] theorem ZeP {A:Prop} {t B} :XV (.p (.bool false)) false (Zw A t) B=A:=by simp [XV,Zw]
@[go_sem ↓, go_sem] theorem wV {b} {B:Prop} {t A} :XV (.tup []) b A (Zw B t)=B:=by rfl
theorem QK {c:Bool} {A B:Prop} {t t'} (h1:c=true->A) (h2:c=false->B):US (.p (.bool c)) (Zw A t) (Zw B t'):=⟨h1,h2⟩
theorem Un {c:Bool} {A B:Prop} {t t'} (h1:c=true->A) (h2:c=false->B):XV (.p (.bool c)) true (Zw A t) (Zw B t'):=⟨h1,fun h=>h2 (by simpa using h)⟩
theorem Qi {c:Bool} {A B:Prop} {t t'} (h1:c=true->B) (h2:c=false->A):XV (.p (.bool c)) false (Zw A t) (Zw B t'):=⟨h2,fun h=>h1 (by simpa using h)⟩
theorem Zd {P Q:Prop} (h:Q) (e:Q->P:=by intro h;simp (disch:=omega) only [go_sem,seval];exact h):P:=e h
class Dc (c:Bool) (p q:outParam Prop):Prop where
 t:c=true->p
 f:c=false->q
instance dcD {p : Prop} [Decidable p] : Dc (decide p) p (¬p) := ⟨AK, of_decide_eq_false⟩
instance (priority := low) dcB {c : Bool} : Dc c (c = true) (c = false) := ⟨id, id⟩
theorem cD {c:Bool} {A B p q:Prop} {t t'} [d:Dc c p q] (h1:p->A) (h2:q->B):US (.p (.bool c)) (Zw A t) (Zw B t'):=QK (fun h=>h1 (d.t h)) (fun h=>h2 (d.f h))
theorem gT {c:Bool} {A B p q:Prop} {t t'} [d:Dc c p q] (h1:p->A) (h2:q->B):XV (.p (.bool c)) true (Zw A t) (Zw B t'):=Un (fun h=>h1 (d.t h)) (fun h=>h2 (d.f h))
theorem gF {c:Bool} {A B p q:Prop} {t t'} [d:Dc c p q] (h1:p->B) (h2:q->A):XV (.p (.bool c)) false (Zw A t) (Zw B t'):=Qi (fun h=>h1 (d.t h)) (fun h=>h2 (d.f h))
@[go_sem] theorem ZmZ {p:Prop} [Decidable p]:(!decide p)=decide (¬p):=Zb
end ops
attribute [congr] Pm MV MI IX MJ I3
section vals
variable {P : Program} {H : List Obj} {k : IntKind} {t u : TypeId}
@[go_sem] theorem ZhS {a b} :Yr P .add t (.p (.int k a)) (.p (.int k b))=some (.int k (k.wrap (a+b))):=by simp [Yr,Jd]
@[go_sem] theorem Zh2 {a b} :Yr P .sub t (.p (.int k a)) (.p (.int k b))=some (.int k (k.wrap (a-b))):=by simp [Yr,Jd]
@[go_sem] theorem fU {a b} :Yr P .mul t (.p (.int k a)) (.p (.int k b))=some (.int k (k.wrap (a*b))):=by simp [Yr,Jd]
@[go_sem] theorem fW {a b} (h:b≠0):Yr P .quo t (.p (.int k a)) (.p (.int k b))=some (.int k (k.wrap (a.tdiv b))):=by simp [Yr,Jd,h]
@[go_sem] theorem Zh0 {a b} (h:b≠0):Yr P .rem t (.p (.int k a)) (.p (.int k b))=some (.int k (a.tmod b)):=by simp [Yr,Jd,h]
@[go_sem] theorem fT {a b} :Yr P .and t (.p (.int k a)) (.p (.int k b))=some (.int k (k.wrap ((BitVec.ofInt k.bits a&&&BitVec.ofInt k.bits b).toNat:Int))):=by simp [Yr,Jd]
@[go_sem] theorem R2 {a b} :Yr P .or t (.p (.int k a)) (.p (.int k b))=some (.int k (k.wrap ((BitVec.ofInt k.bits a|||BitVec.ofInt k.bits b).toNat:Int))):=by simp [Yr,Jd]
@[go_sem] theorem wR {a b} :Yr P .andNot t (.p (.int k a)) (.p (.int k b))=some (.int k (k.wrap ((BitVec.ofInt k.bits a&&& ~~~(BitVec.ofInt k.bits b)).toNat:Int))):=by simp [Yr,Jd]
@[go_sem] theorem ZhU {a b} :Yr P .eql t (.p (.int k a)) (.p (.int k b))=some (.bool (decide (a=b))):=by simp [Yr,Jd]
@[go_sem] theorem ZhZ {a b} :Yr P .neq t (.p (.int k a)) (.p (.int k b))=some (.bool (decide (¬a=b))):=by simp [Yr,Jd]
@[go_sem] theorem ZhY {a b} :Yr P .lss t (.p (.int k a)) (.p (.int k b))=some (.bool (decide (a<b))):=by simp [Yr,Jd]
@[go_sem] theorem ZhX {a b} :Yr P .leq t (.p (.int k a)) (.p (.int k b))=some (.bool (decide (a<=b))):=by simp [Yr,Jd]
@[go_sem] theorem ZhW {a b} :Yr P .gtr t (.p (.int k a)) (.p (.int k b))=some (.bool (decide (b<a))):=by simp [Yr,Jd]
@[go_sem] theorem ZhV {a b} :Yr P .geq t (.p (.int k a)) (.p (.int k b))=some (.bool (decide (b<=a))):=by simp [Yr,Jd]
@[go_sem] theorem fX {a b k'} (h:0<=b):Yr P .shl t (.p (.int k a)) (.p (.int k' b))=some (.int k (k.wrap (a*2^(min b.toNat k.bits)))):=by grind [Yr,Jd]
@[go_sem] theorem fY {a b k'} (h:0<=b):Yr P .shr t (.p (.int k a)) (.p (.int k' b))=some (.int k (a.fdiv (2^(min b.toNat k.bits)))):=by grind [Yr,Jd]
@[go_sem] theorem Zh1 {op a b} :Yr P op t (.p (.str a)) (.p (.str b))=Mp op a b:=Zm rfl rfl
@[go_sem] theorem ZkS {a b} :Mp .eql a b=some (.bool (decide (a=b))):=Zm rfl rfl
@[go_sem] theorem ZkT {a b} :Mp .neq a b=some (.bool (decide (¬a=b))):=by simp [Mp]
@[go_sem] theorem oQ {a b} (h:a.length+b.length<=9223372036854775807):Mp .add a b=some (.str (a++b)):=by simp [Mp,h]
def Zrt (op:BinOp) (u:Option TypeDesc) (a b:Bool):Option PV:=match op,u with
  | .eql,some .bool=>some (.bool (a==b))
  | .neq,some .bool=>some (.bool (!(a==b)))
  | _,_=>none
end vals
attribute [irreducible] BN Bq hst bst
end Go.AM
namespace Go.AM
open Go.RowKit
section vals
variable {P : Program} {H : List Obj} {k : IntKind} {t u : TypeId}
def ZaP (g:Bool) (op:BinOp) (r:Option Bool):Option PV:=if g then none else match op with
 | .eql=>r.map .bool
 | .neq=>r.map fun r=> .bool (!r)
 | _=>none
@[go_sem] theorem ZhT {op a b} :Yr P op t (.p (.agg a)) (.p (.agg b))=ZaP (P.eqGuardType P.depth t) op (VF P 9 t (.agg a) (.agg b)):=Zm rfl rfl
@[go_sem] theorem ZiQ {b} :ZaP false .eql (some b)=some (.bool b):=Zm rfl rfl
@[go_sem] theorem ZiR {b} :ZaP false .neq (some b)=some (.bool (!b)):=Zm rfl rfl
def Hi (P:Program) (d:Nat) (t:TypeId) (D:Option TypeDesc) (x y:PV):Option Bool:=match D,x,y with
  | some .bool,.bool a,.bool b=>some (a==b)
  | some (.int _),.int k a,.int k' b=>if k=k' then some (decide (a=b)) else none
  | some .string,.str a,.str b=>some (decide (a=b))
  | some (.struct fs),.agg a,.agg b=>if P.stoodInHeld t then none else B2 (VF P d) P fs.toList a b
  | some (.array n e),.agg a,.agg b=>match Wa P e with | some m=>TX (VF P d e) P e m n 0 a b | none=>none
  | _,_,_=>none
@[go_sem] theorem ZeM {d x y} :VF P (d+1) t x y=Hi P d t (P.underlying t) x y:=Zm rfl rfl
@[go_sem] theorem ZeL {d a b} :Hi P d t (some .bool) (.bool a) (.bool b)=some (a==b):=Zm rfl rfl
@[go_sem] theorem Zh5 {d k0 a b} :Hi P d t (some (.int k0)) (.int k a) (.int k b)=some (decide (a=b)):=by simp [Hi]
theorem QL {d fs a b} (h:P.stoodInHeld t=false):Hi P d t (some (.struct fs)) (.agg a) (.agg b)=B2 (VF P d) P fs.toList a b:=by simp [Hi,h]
def EI (x y:Option Bool):Option Bool:=x.bind fun p=>y.map fun q=>p&&q
@[go_sem] theorem ZfV {p q} :EI (some p) (some q)=some (p&&q):=Zm rfl rfl
def fH (f:PV->PV->Option Bool) (x y:Option PV):Option Bool:=x.bind fun x=>y.bind fun y=>f x y
@[go_sem] theorem ZiJ {f x y} :fH f (some x) (some y)=f x y:=Zm rfl rfl
@[go_sem] theorem B3 {f a b} :B2 f P [] a b=some true:=Zm rfl rfl
@[go_sem] theorem Ar {f fi r a b} : B2 f P (fi :: r) a b = if fi.name = "_" then B2 f P r a b else EI (fH (f fi.type) (apart P fi.type a fi.offset) (apart P fi.type b fi.offset)) (B2 f P r a b) := by
 simp only [B2]
 split
 ·rfl
 ·cases apart P fi.type a fi.offset<;>cases apart P fi.type b fi.offset<;>simp [fH,EI]
  rename_i x y
  cases f fi.type x y<;>cases B2 f P r a b<;>rfl
def Zig (g:Option Bool) (s:Option Nat) (cs:List PV) (off:Nat):Option PV:=match g,s with
 | some true,some n=>if off+n<=cs.length then some (.agg ((cs.drop off).take n)) else none
 | some false,_=>cs[off]?
 | _,_=>none
@[go_sem] theorem Zif {cs off} :apart P t cs off=Zig (XT P t) (Wa P t) cs off:=Zm rfl rfl
@[go_sem] theorem Zih {s cs off} :Zig (some false) s cs off=cs[off]? :=Zm rfl rfl
def Pj (g:Option Bool) (s:Option Nat) (H:List Obj) (x:V):Option V:=match g,s with
 | some true,some n=>(UH H x n).map mkA
 | some false,_=>match UH H x 1 with
  | some (c::_)=>some c
  | _=>none
 | _,_=>none
def hdO (x:Option (List V)):Option V:=match x with | some (c::_)=>some c | _=>none
@[go_sem] theorem ZiU {c l} :hdO (some (c::l))=some c:=Zm rfl rfl
@[go_sem] theorem Zia {x} :Js P H t x=Pj (XT P t) (Wa P t) H x:=Zm rfl rfl
@[go_sem] theorem zN {s x} :Pj (some false) s H x=hdO (UH H x 1):=by rfl
@[go_sem] theorem zM {n x} :Pj (some true) (some n) H x=(UH H x n).map mkA:=Zm rfl rfl
@[go_sem] theorem ZeK {x j n} :UH H (.lp x j) n=if j+n<=x.cells.length then some (((x.cells.drop j).take n).map .p) else none:=Zm rfl rfl
def nK (ob:Obj) (off n:Nat):Option (List V):=match ob with | .cells cs=>if off+n<=cs.length then some ((cs.drop off).take n) else none | _=>none
@[go_sem] theorem zA {o off n} :UH H (.ptr o off) n=nK (oat H o) off n:=Zm rfl rfl
@[go_sem] theorem uR {cs off n} :nK (.cells cs) off n=if off+n<=cs.length then some ((cs.drop off).take n) else none:=Zm rfl rfl
def jN (ob:Obj) (i j tot n:Nat):Option (List V):=match ob with
 | .elems _ xs=>if xs.length=tot/\i<xs.length/\j+n<=(KH xs i).cells.length then some ((((KH xs i).cells.drop j).take n).map .p) else none
 | _=>none
@[go_sem] theorem ZeJ {o i j tot n} :UH H (.ep o i j tot) n=jN (oat H o) i j tot n:=Zm rfl rfl
@[go_sem] theorem sU {S xs i j tot n} :jN (.elems S xs) i j tot n=if xs.length=tot/\i<xs.length/\j+n<=(KH xs i).cells.length then some ((((KH xs i).cells.drop j).take n).map .p) else none:=Zm rfl rfl
@[go_sem] theorem Zfs {cs} :(PV.agg cs).cells=cs:=Zm rfl rfl
@[go_sem] theorem Zfu {n} :(PV.int k n).cells= [.int k n]:=Zm rfl rfl
@[go_sem] theorem Zau {b} :(PV.bool b).cells= [.bool b]:=Zm rfl rfl
@[go_sem] theorem Zfv {s} :(PV.str s).cells= [.str s]:=Zm rfl rfl
@[go_sem] theorem Zav {c xs} :(PV.list c xs).cells= [.list c xs]:=Zm rfl rfl
@[go_sem] theorem Zm1 {n} :(PV.int k n).one=true:=Zm rfl rfl
@[go_sem] theorem ZkC {b} :(PV.bool b).one=true:=Zm rfl rfl
@[go_sem] theorem Zm2 {s} :(PV.str s).one=true:=Zm rfl rfl
@[go_sem] theorem ZkD {c xs} :(PV.list c xs).one=true:=Zm rfl rfl
@[go_sem] theorem ZoG {cs} :mkA cs=match Q4 cs with | some ps=> .p (.agg ps) | none=> .agg cs:=Zm rfl rfl
@[go_sem] theorem Zh9 : Q4 []=some []:=Zm rfl rfl
@[go_sem] theorem ZeY {x r} :Q4 (.p x::r)=(Q4 r).map (x:: ·):=by rfl
def EM (n:Option Nat) (a:Bool) (x:V):Option V:=match n with | some n=>if a then some (B9 n x) else none | none=>none
@[go_sem] theorem ZeN {s f x} :JV P H s f x=EM (ZX P s f) (WB H x) x:=Zm rfl rfl
@[go_sem] theorem qR {n x} :EM (some n) true x=some (B9 n x):=Zm rfl rfl
@[go_sem] theorem Zid {n x j} :B9 n (.lp x j)= .lp x (j+n):=Zm rfl rfl
@[go_sem] theorem Ze3 {n o off} :B9 n (.ptr o off)= .ptr o (off+n):=Zm rfl rfl
@[go_sem] theorem Zic {n o i j tot} :B9 n (.ep o i j tot)= .ep o i (j+n) tot:=Zm rfl rfl
def SP (ob:Obj):Bool:=match ob with | .cells _=>true | _=>false
@[go_sem] theorem qJ {cs} :SP (.cells cs)=true:=Zm rfl rfl
def SQ (ob:Obj) (tot:Nat):Bool:=match ob with | .elems _ xs=>decide (xs.length=tot) | _=>false
@[go_sem] theorem qK {S xs tot} :SQ (.elems S xs) tot=decide (xs.length=tot):=Zm rfl rfl
def SU (ob:Obj) (tot:Nat):Bool:=match ob with | .elems _ xs=>decide (xs.length=tot) | .cells _=>true | _=>false
@[go_sem] theorem yA {S xs tot} :SU (.elems S xs) tot=decide (xs.length=tot):=Zm rfl rfl
@[go_sem] theorem xZ {cs tot} :SU (.cells cs) tot=true:=Zm rfl rfl
@[go_sem] theorem Zh8 {x j} :WB H (.lp x j)=true:=Zm rfl rfl
@[go_sem] theorem zK {o off} :WB H (.ptr o off)=SP (oat H o):=Zm rfl rfl
@[go_sem] theorem Zh7 {o i j tot} :WB H (.ep o i j tot)=SQ (oat H o) tot:=Zm rfl rfl
def UY (e:Option (Option Nat×Nat)) (H:List Obj) (x i:V):Option V:=match e,i with
 | some (none,S),.p (.int _ n)=>match x with
  | .p (.list _ xs)=>if 0<=n/\n<xs.length then (if (KH xs n.toNat).cells.length=S then some (.lp (KH xs n.toNat) 0) else none) else none
  | .sl o off len tot=>match oat H o with
   | .elems S' xs=>if xs.length=tot/\S'=S then (if 0<=n/\n<len then some (.ep o (off+n.toNat) 0 tot) else none) else none
   | .cells _=>if S=1/\off=0/\len=tot/\0<=n/\n<len then some (.ptr o n.toNat) else none
   | _=>none
  | _=>none
 | some (some k,S),.p (.int _ n)=>if 0<=n/\n<k then (if WB H x then some (B9 (n.toNat*S) x) else none) else none
 | _,_=>none
@[go_sem] theorem ZeU {x i} :Q3 P H t x i=UY (Wu P t) H x i:=Zm rfl rfl
theorem I4 {S c xs n} (h0:0<=n) (h1:n<(List.length xs:Int)):UY (some (none,S)) H (.p (.list c xs)) (.p (.int k n))=if (KH xs n.toNat).cells.length=S then some (.lp (KH xs n.toNat) 0) else none:=by
 simp_all [UY]
def nth {α:Type} [Inhabited α] (l:List α) (i:Nat):α:=l.getD i default
theorem VJ {α:Type} [Inhabited α] {f:α->PV} {l:List α} {i:Nat} (h:i<l.length):KH (l.map f) i=f (nth l i):=by
 simp [KH,nth,h]
theorem Zi {α:Type} [Inhabited α] {l:List α} {i:Nat} (h:i<l.length):nth l i=l[i]:=by simp [nth,h]
@[go_sem] theorem wX {α:Type} [Inhabited α] {f:α->PV} {l:List α} {S c n} (h0:0<=n) (h1:n<(l.length:Int)) :
  UY (some (none,S)) H (.p (.list c (l.map f))) (.p (.int k n))=if (f (nth l n.toNat)).cells.length=S then some (.lp (f (nth l n.toNat)) 0) else none:=by
 grind [I4,VJ]
def GX (ob:Obj) (S o off len tot:Nat) (n:Int):Option V:=match ob with
 | .elems S' xs=>if xs.length=tot/\S'=S then (if 0<=n/\n<len then some (.ep o (off+n.toNat) 0 tot) else none) else none
 | .cells _=>if S=1/\off=0/\len=tot/\0<=n/\n<len then some (.ptr o n.toNat) else none
 | _=>none
@[go_sem] theorem zF {S o off len tot n} :UY (some (none,S)) H (.sl o off len tot) (.p (.int k n))=GX (oat H o) S o off len tot n:=Zm rfl rfl
@[go_sem] theorem Zf2 {S xs o off} {len tot:Nat} {n:Int} (h0:0<=n) (h1:n<(len:Int)) (ht:xs.length=tot):GX (.elems S xs) S o off len tot n=some (.ep o (off+n.toNat) 0 tot):=by
 grind [GX]
@[go_sem] theorem vR {cs o} {len:Nat} {n:Int} (h0:0<=n) (h1:n<(len:Int)):GX (.cells cs) 1 o 0 len len n=some (.ptr o n.toNat):=by
 grind [GX]
@[go_sem] theorem wW {n} {m S:Nat} {x} (h0:0<=n) (h1:n<(m:Int)):UY (some (some m,S)) H x (.p (.int k n))=EM (some (n.toNat*S)) (WB H x) x:=by
 simp_all [UY,EM]
def R3 (H:List Obj) (D:Option TypeDesc) (x:V):Option PV:=match D,x with
 | some (.slice _),.p (.list _ xs)=>some (.int .i64 xs.length)
 | some (.slice _),.sl o _ len tot=>match oat H o with
  | .elems _ xs=>if xs.length=tot then some (.int .i64 len) else none
  | _=>none
 | some .string,.p (.str s)=>some (.int .i64 s.length)
 | some (.array n _),_=>some (.int .i64 n)
 | _,_=>none
@[go_sem] theorem Zl3 {x} :gI P H t x=R3 H (P.underlying t) x:=Zm rfl rfl
@[go_sem] theorem zG {e c xs} :R3 H (some (.slice e)) (.p (.list c xs))=some (.int .i64 (List.length xs)):=Zm rfl rfl
def ZkW (ob:Obj) (len tot:Nat):Option PV:=match ob with | .elems _ xs=>if xs.length=tot then some (.int .i64 len) else none | _=>none
@[go_sem] theorem Zh6 {e o off len tot} :R3 H (some (.slice e)) (.sl o off len tot)=ZkW (oat H o) len tot:=Zm rfl rfl
@[go_sem] theorem Zd8 {S xs len tot} :ZkW (.elems S xs) len tot=if xs.length=tot then some (.int .i64 len) else none:=Zm rfl rfl
@[go_sem] theorem ZeX {s} :R3 H (some .string) (.p (.str s))=some (.int .i64 (List.length s)):=Zm rfl rfl
@[go_sem] theorem Zmb {b} :aun .not (.p (.bool b))=some (.bool (!b)):=Zm rfl rfl
@[go_sem] theorem Zma {n} :aun .neg (.p (.int k n))=some (.int k (k.wrap (0-n))):=Zm rfl rfl
def gA (D E:Option TypeDesc) (x:V):Option PV:=match D,E,x with
 | some _,some (.int k),.p (.int _ n)=>some (.int k (k.wrap n))
 | some (.int _),some .string,.p (.int _ n)=>if 0<=n/\n<128 then some (.str [UInt8.ofNat n.toNat]) else none
 | some .string,some .string,.p (.str b)=>some (.str b)
 | _,_,_=>none
@[go_sem] theorem Zh4 {s x} :MK P s t x=gA (P.underlying s) (P.underlying t) x:=Zm rfl rfl
@[go_sem] theorem zC {D k' n} :gA (some D) (some (.int k)) (.p (.int k' n))=some (.int k (k.wrap n)):=by rfl
def I2 (E:Option TypeDesc) (H:List Obj) (x:V):Option PV:=match E,x with
  | some (.int .u8),.p (.list _ xs)=>(Wg xs).map .str
  | some (.int .u8),.sl o off len tot=>match oat H o with
   | .elems _ xs=>if xs.length=tot/\off+len<=tot then (Wg ((xs.take (off+len)).drop off)).map .str else none
   | _=>none
  | _,_=>none
def I1 (P:Program) (H:List Obj) (D E:Option TypeDesc) (x:V):Option PV:=match D,E with
 | some (.slice e),some .string=>I2 (P.underlying e) H x
 | _,_=>none
@[go_sem] theorem ZeH {s x} :Du P H s t x=I1 P H (P.underlying s) (P.underlying t) x:=Zm rfl rfl
@[go_sem] theorem wS {E x} :I1 P H (some (.int k)) E x=none:=Zm rfl rfl
@[go_sem] theorem qB {e x} :I1 P H (some (.slice e)) (some .string) x=I2 (P.underlying e) H x:=Zm rfl rfl
def oS (ob:Obj) (off len tot:Nat):Option PV:=match ob with | .elems _ xs=>if xs.length=tot/\off+len<=tot then (Wg ((xs.take (off+len)).drop off)).map .str else none | _=>none
@[go_sem] theorem yZ {o off len tot} :I2 (some (.int .u8)) H (.sl o off len tot)=oS (oat H o) off len tot:=Zm rfl rfl
@[go_sem] theorem vM {S xs off len tot} :oS (.elems S xs) off len tot=if xs.length=tot/\off+len<=tot then (Wg ((xs.take (off+len)).drop off)).map .str else none:=Zm rfl rfl
@[go_sem] theorem xO : Wg []=some []:=Zm rfl rfl
@[go_sem] theorem sE {n r} :Wg (.int .u8 n::r)=(Wg r).map (UInt8.ofNat n.toNat:: ·):=by rfl
@[go_sem] theorem Znw {a b:Int} (h:0<=a):a.tdiv b=a / b:=EW h
@[go_sem] theorem ZnI {a b:Int} (h:0<=a):a.tmod b=a%b:=Int.tmod_eq_emod_of_nonneg h
@[go_sem] theorem Zqf {cs} :vc H (.p (.agg cs))=if cs.all (·.one)=true then some (cs.map .p) else none:=by rfl
@[go_sem] theorem ZnJ {cs} :vc H (.agg cs)=if cs.all (V.one H)=true then some cs else none:=by rfl
@[go_sem] theorem Zqg {n} :vc H (.p (.int k n))=some [.p (.int k n)]:=Zm rfl rfl
@[go_sem] theorem ZnK {n} :vc H (.p (.bool n))=some [.p (.bool n)]:=Zm rfl rfl
@[go_sem] theorem Zqh {n} :vc H (.p (.str n))=some [.p (.str n)]:=Zm rfl rfl
@[go_sem] theorem ZnL {c xs} :vc H (.p (.list c xs))=some [.p (.list c xs)]:=Zm rfl rfl
@[go_sem] theorem Zrr {o off len tot} :vc H (.sl o off len tot)=if SU (oat H o) tot=true then some [.sl o off len tot] else none:=Zm rfl rfl
@[go_sem] theorem Zqi {x} :V.one H (.p x)=x.one:=Zm rfl rfl
@[go_sem] theorem ZnO {o off len tot} :V.one H (.sl o off len tot)=SU (oat H o) tot:=Zm rfl rfl
@[go_sem] theorem ZnN {o} :V.one H (.mp o)=SR (oat H o):=Zm rfl rfl
@[go_sem] theorem Zrq {o} :vc H (.mp o)=if SR (oat H o)=true then some [.mp o] else none:=Zm rfl rfl
@[go_sem] theorem ZfK {es} :SR (.map es)=true:=Zm rfl rfl
@[go_sem] theorem Mt {α:Type} {n} {cs:List α} :Jp ([]:List α) n cs= []:=by rfl
@[go_sem] theorem ZkZ {α:Type} {x c:α} {l cs} :Jp (x::l) 0 (c::cs)=c::Jp l 0 cs:=by simp [Jp]
@[go_sem] theorem Zf3 {α:Type} {x:α} {l} :Jp (x::l) 0 []=x::l:=by simp [Jp]
@[go_sem] theorem ZkY {α:Type} {x:α} {l cs n} :Jp (x::l) (n+1) cs=x::Jp l n cs:=by simp [Jp]
def nZ (H:List Obj) (o:Nat) (ob:Obj) (off n:Nat) (cs:List V):Option (List Obj):=match ob with
 | .cells old=>if off+n<=old.length then some (Gx H o (.cells (Jp old off cs))) else none
 | _=>none
@[go_sem] theorem Zal {n o off cs} :By H n (.ptr o off) cs=if cs.length=n then nZ H o (oat H o) off n cs else none:=Zm rfl rfl
@[go_sem] theorem vA {o old off n cs} :nZ H o (.cells old) off n cs=if off+n<=old.length then some (Gx H o (.cells (Jp old off cs))) else none:=Zm rfl rfl
def PM (H:List Obj) (o:Nat) (ob:Obj) (i j tot n:Nat) (ps:Option (List PV)):Option (List Obj):=match ob,ps with
 | .elems S xs,some ps=>if xs.length=tot/\i<xs.length/\j+n<=(KH xs i).cells.length/\ps.all (·.one)=true/\(KH xs i).cells.all (·.one)=true then
   some (Gx H o (.elems S (xs.set i (lZ (KH xs i) (Jp (KH xs i).cells j ps))))) else none
 | _,_=>none
@[go_sem] theorem Zfj {n o i j tot cs} :By H n (.ep o i j tot) cs=if cs.length=n then PM H o (oat H o) i j tot n (Q4 cs) else none:=Zm rfl rfl
@[go_sem] theorem ZaK {α:Type} [Inhabited α] {f:α->PV} {l:List α} {o S i j tot n ps} (ht:l.length=tot) (hi:i<l.length):PM H o (.elems S (l.map f)) i j tot n (some ps) =
  if j+n<=(f (nth l i)).cells.length/\ps.all (·.one)=true/\(f (nth l i)).cells.all (·.one)=true then
   some (Gx H o (.elems S ((l.map f).set i (lZ (f (nth l i)) (Jp (f (nth l i)).cells j ps))))) else none:=by
 simp_all [PM,VJ]
@[go_sem] theorem ZmX {a cs} :lZ (.agg a) cs= .agg cs:=Zm rfl rfl
@[go_sem] theorem ZmY {n c l} :lZ (.int k n) (c::l)=c:=Zm rfl rfl
@[go_sem] theorem Zkp {n c l} :lZ (.bool n) (c::l)=c:=Zm rfl rfl
@[go_sem] theorem ZeG {l} :Fw P H t l=match Xl P t,B0 P t with
 | some zs,some pl=>(KM H pl (zs.map .p) l).map mkA
 | _,_=>none:=Zm rfl rfl
@[go_sem] theorem ZeO {pl cs} :KM H pl cs []=some cs:=by simp [KM]
def gC (H:List Obj) (pl:Nat->Option (Nat×Nat)) (cs:List V) (r:List (Nat×V)) (q:Option (Nat×Nat)) (vs:Option (List V)):Option (List V):=match q,vs with
 | some (off,sz),some vs=>if vs.length=sz/\off+sz<=cs.length then KM H pl (Jp cs off vs) r else none
 | _,_=>none
@[go_sem] theorem zD {pl cs i v r} :KM H pl cs ((i,v)::r)=gC H pl cs r (pl i) (vc H v):=Zm rfl rfl
@[go_sem] theorem wU {pl cs off sz vs r} :gC H pl cs r (some (off,sz)) (some vs)=if vs.length=sz/\off+sz<=cs.length then KM H pl (Jp cs off vs) r else none:=Zm rfl rfl
@[go_sem] theorem ZoM {l i} :BZ l i=l[i]? :=Zm rfl rfl
@[go_sem] theorem ZoL {n i} :plA n i=some (i*n,n):=Zm rfl rfl
end vals
end Go.AM
namespace Go.AM
open Go.RowKit
section
variable {P : Program} {H : List Obj} {k : IntKind} {t u : TypeId} {fr : List V}
def gJ (S:Option Nat) (H:List Obj) (n:Nat) (l:List (Nat×V)):Option (V×List Obj):=match S with
 | some S=>if n=l.length/\n*S<=16777216/\0<S then (JD H S 0 l).map fun xs=>(.sl H.length 0 n n,H++ [.elems S xs]) else none
 | none=>none
@[go_sem] theorem Zib {n l} :Ve P (.buildSlice t n (List.toArray l)) fr H=gJ (U5 P t) H n (l.map fun x=>(x.1,ev fr x.2)):=by
 grind [Ve,U5,gJ,Pi]
@[go_sem] theorem zH {S n l} :gJ (some S) H n l=if n=l.length/\n*S<=16777216/\0<S then (JD H S 0 l).map fun xs=>(.sl H.length 0 n n,H++ [.elems S xs]) else none:=Zm rfl rfl
@[go_sem] theorem Zkl {S n} :JD H S n []=some []:=by simp [JD]
@[go_sem] theorem ZfQ {S n i x r} :JD H S n ((i,.p x)::r)=if i=n then if x.cells.length=S/\x.cells.all (·.one)=true then (JD H S (n+1) r).map (x:: ·) else none else none:=by rfl
@[go_sem] theorem ZmN {S n i f r} :JD H S n ((i,.fn (.func f) [] [])::r)=if i=n then if 1=S then (JD H S (n+1) r).map (.fn f:: ·) else none else none:=by simp [JD,pvo,PV.cells,PV.one]
def QG (P:Program) (t:TypeId):Option (Nat×Nat):=match P.underlying t with
 | some (.slice e)=>match Wa P e,zval P e,(P.info? e).map (·.bytes) with
  | some S,some z,some by'=>if 0<S/\z.cells.length=S/\z.cells.all (·.one)=true/\by'≠0 then some (S,by') else none
  | _,_,_=>none
 | _=>none
theorem FD {S by'} (h:QG P t=some (S,by')): ∃e z,P.underlying t=some (.slice e)/\Wa P e=some S/\zval P e=some z/\(P.info? e).map (·.bytes)=some by'/\0<S/\z.cells.length=S/\z.cells.all (·.one)=true/\by'≠0:=by
 unfold QG at h
 grind
def YM (D:Option TypeDesc) (H:List Obj) (y:V):Option (List PV):=match D,y with
 | some (.slice _),.p (.list _ ys)=>some ys
 | some (.slice _),.sl o off len tot=>match oat H o with
  | .elems _ xs=>if xs.length=tot/\off+len<=tot then some ((xs.take (off+len)).drop off) else none
  | _=>none
 | some .string,.p (.str s)=>some (s.map fun b=> .int .u8 b.toNat)
 | _,_=>none
def pH (ob:Obj) (off len tot:Nat):Option (List PV):=match ob with | .elems _ xs=>if xs.length=tot/\off+len<=tot then some ((xs.take (off+len)).drop off) else none | _=>none
@[go_sem] theorem zZ {e c ys} :YM (some (.slice e)) H (.p (.list c ys))=some ys:=Zm rfl rfl
@[go_sem] theorem Zim {e o off len tot} :YM (some (.slice e)) H (.sl o off len tot)=pH (oat H o) off len tot:=Zm rfl rfl
theorem OM {S xs n} (h:List.length xs=n):pH (.elems S xs) 0 n n=some xs:=by grind [pH]
def MP (H:List Obj) (F:Option (Nat×Nat)) (ys:Option (List PV)):Option (V×List Obj):=match F,ys with
 | some (S,by'),some ys=>if K5 S ys=true/\ys.length*by'<=140737488355328/\ys.length<=140737488355328 then some (.sl H.length 0 ys.length ys.length,H++ [.elems S ys]) else none
 | _,_=>none
def Uq (H:List Obj) (F:Option (Nat×Nat)) (ob:Obj) (o n:Nat) (ys:Option (List PV)):Option (V×List Obj):=match F,ob,ys with
 | some (S,by'),.elems S' xs,some ys=>if S'=S/\xs.length=n/\K5 S ys=true/\(n+ys.length)*by'<=140737488355328/\n+ys.length<=140737488355328 then
   some (.sl o 0 (n+ys.length) (n+ys.length),Gx H o (.elems S (xs++ys))) else none
 | _,_,_=>none
theorem IZ {z x y ys e S by'} (h1:P.underlying t=some (.slice e)) (h2:Wa P e=some S) (h3:zval P e=some z) (h4:(P.info? e).map (·.bytes)=some by') (h5:Hj P H u y=some ys) (h6:0<S/\z.cells.length=S/\z.cells.all (·.one)=true/\by'≠0) :
  W9 P H t u x y=if K5 S ys=true then (match x with
    | .p (.list cl xs)=>if cl=true/\K5 S xs=true/\(xs= []\/0<ys.length)/\(xs.length+ys.length)*by'<=140737488355328/\xs.length+ys.length<=140737488355328 then
      some (.sl H.length 0 (xs.length+ys.length) (xs.length+ys.length),H++ [.elems S (xs++ys)]) else none
    | .sl o off len tot=>match oat H o with
     | .elems S' xs=>if S'=S/\off=0/\len=tot/\xs.length=tot/\(tot+ys.length)*by'<=140737488355328/\tot+ys.length<=140737488355328 then
       some (.sl o 0 (tot+ys.length) (tot+ys.length),Gx H o (.elems S (xs++ys))) else none
     | _=>none
    | _=>none) else none:=by
 simp only [W9,h1,h2,h3,h4,h5]
 grind
theorem B1 {y F} (hF:QG P t=some F):W9 P H t u (.p (.list true [])) y=MP H (some F) (YM (P.underlying u) H y):=by
 obtain ⟨S,by'⟩:=F;obtain ⟨e,z,h1,h2,h3,h4,h6⟩:=FD hF;have e1:YM (P.underlying u) H y=Hj P H u y:=Zm rfl rfl;rw [e1]
 cases h5:Hj P H u y with
 | none=>grind [W9,MP]
 | some ys =>
  grind [IZ,MP,K5]
theorem Yl {y F o n} (hF:QG P t=some F):W9 P H t u (.sl o 0 n n) y=Uq H (some F) (oat H o) o n (YM (P.underlying u) H y):=by
 obtain ⟨S,by'⟩:=F;obtain ⟨e,z,h1,h2,h3,h4,h6⟩:=FD hF;have e1:YM (P.underlying u) H y=Hj P H u y:=Zm rfl rfl;rw [e1]
 cases h5:Hj P H u y with
 | none =>
  grind [W9,Uq]
 | some ys =>
  rw [IZ h1 h2 h3 h4 h5 h6];simp only [Uq]
  grind
@[go_sem] theorem Ze8 {S b ys} :MP H (some (S,b)) (some ys)=if K5 S ys=true/\ys.length*b<=140737488355328/\ys.length<=140737488355328 then some (.sl H.length 0 ys.length ys.length,H++ [.elems S ys]) else none:=Zm rfl rfl
theorem HE {S b xs ys o n} (hn:xs.length=n) (hb:(n+ys.length)*b<=140737488355328) (hb2:n+ys.length<=140737488355328):Uq H (some (S,b)) (.elems S xs) o n (some ys)=if K5 S ys=true then some (.sl o 0 (n+ys.length) (n+ys.length),Gx H o (.elems S (xs++ys))) else none:=by
 simp_all [Uq]
@[go_sem] theorem Zk1 {α:Type} {S} {f:α->PV} {l:List α} :pH (.elems S (l.map f)) 0 l.length l.length=some (l.map f):=OM Zb
@[go_sem] theorem Zk2 {S x} :pH (.elems S [x]) 0 1 1=some [x]:=OM Zb
@[go_sem] theorem Zfa {α:Type} {S b o x} {f:α->PV} {l:List α} (hb:(l.length+1)*b<=140737488355328) (hb2:l.length+1<=140737488355328):Uq H (some (S,b)) (.elems S (l.map f)) o l.length (some [x])=if K5 S [x]=true then some (.sl o 0 (l.length+1) (l.length+1),Gx H o (.elems S (l.map f++ [x]))) else none :=
 HE Zb Za Za
@[go_sem] theorem Zfb {α β:Type} {S b o} {f:α->PV} {g:β->PV} {l:List α} {m:List β} (hb:(l.length+m.length)*b<=140737488355328) (hb2:l.length+m.length<=140737488355328):Uq H (some (S,b)) (.elems S (l.map f)) o l.length (some (m.map g))=if K5 S (m.map g)=true then some (.sl o 0 (l.length+m.length) (l.length+m.length),Gx H o (.elems S (l.map f++m.map g))) else none:=by
 grind [HE]
@[go_sem] theorem Zm0 {S} :K5 S []=true:=Zm rfl rfl
@[go_sem] theorem Zkw {S x l} :K5 S (x::l)=((x.cells.length==S)&&x.cells.all (·.one)&&K5 S l):=by rfl
theorem QV {α:Type} {S} {f:α->PV} {l:List α} (h: ∀x,ZdG S (f x)=true):K5 S (l.map f)=true:=by grind [K5]
def S5 (P:Program) (t:TypeId):Option (Nat×Nat×PV):=match P.underlying t with
  | some (.slice e)=>match Wa P e,zval P e,(P.info? e).map (·.bytes) with
   | some S,some z,some by'=>if z.cells.all (·.one)=true/\z.cells.length=S/\0<S then some (S,by',z) else none
   | _,_,_=>none
  | _=>none
end
def WO : Nat->List Nat->List V->List V
 | _,_,[]=> []
 | i,[],_::l=> .junk::WO (i+1) [] l
 | i,k::ks,x::l=>if i=k then x::WO (i+1) ks l else .junk::WO (i+1) (k::ks) l
def KK : List (Nat×V)->List V->List V
 | [],fr=>fr
 | (i,v)::r,fr=>KK r (pt fr i v)
@[go_sem] theorem ZfL {i ks} :WO i ks []= []:=by rfl
@[go_sem] theorem Zdw {i x l} :WO i [] (x::l)= .junk::WO (i+1) [] l:=by simp [WO]
@[go_sem] theorem Zdv {i k ks x l} :WO i (k::ks) (x::l)=if i=k then x::WO (i+1) ks l else .junk::WO (i+1) (k::ks) l:=by simp [WO]
@[go_sem] theorem Zqt : ((0:Nat):Int)=0:=Zm rfl rfl
@[go_sem] theorem Zqu {n:Nat} :((n+1:Nat):Int)=(n:Int)+1:=Zm rfl rfl
@[go_sem] theorem Zpk {n:Nat} :((n:Int)).toNat=n:=Zm rfl rfl
@[go_sem] theorem ZkU {fr} :KK [] fr=fr:=by simp [KK]
@[go_sem] theorem Zf1 {i v r fr} :KK ((i,v)::r) fr=KK r (pt fr i v):=by simp [KK]
@[go_sem] theorem Zl8 {p q:Prop} [Decidable p] [Decidable q]:(decide p&&decide q)=decide (p/\q):=Zb
@[go_sem] theorem ZdK {p q:Prop} [Decidable p] [Decidable q]:(decide p||decide q)=decide (p\/q):=Zb
theorem Zl {P c fr H Q} {I:Type} (ks:List Nat) (sets:I->List (Nat×V)) (hs:I->List Obj) (R:I->Prop) (μ:I->Nat) (i0:I) (hR:R i0) (h0:Weak H.length fr H (KK (sets i0) (WO 0 ks fr)) (hs i0))
  (round: ∀i,R i->JZ [] P c (KK (sets i) (WO 0 ks fr)) (hs i) (QZ (fun fr' H'=> ∃i',R i'/\μ i'<μ i/\Weak H.length fr' H' (KK (sets i') (WO 0 ks fr)) (hs i')) Q)):AWP P (.loop c) fr H Q :=
 MW R (fun i=>KK (sets i) (WO 0 ks fr)) hs μ i0 hR h0 fun i hi=>Zh [] _ _ _ _ (round i hi)
theorem Z3 {P c fr H Q} (cuts:List Nat) {I:Type} (ks:List Nat) (sets:I->List (Nat×V)) (hs:I->List Obj) (R:I->Prop) (μ:I->Nat) (i0:I) (hR:R i0) (h0:Weak H.length fr H (KK (sets i0) (WO 0 ks fr)) (hs i0))
  (round: ∀i,R i->JZ cuts P c (KK (sets i) (WO 0 ks fr)) (hs i) (QZ (fun fr' H'=> ∃i',R i'/\μ i'<μ i/\Weak H.length fr' H' (KK (sets i') (WO 0 ks fr)) (hs i')) Q)):AWP P (.loop c) fr H Q :=
 MW R (fun i=>KK (sets i) (WO 0 ks fr)) hs μ i0 hR h0 fun i hi=>Zh cuts _ _ _ _ (round i hi)
theorem ZM {P x y fr H Q} {I:Type} (ks:List Nat) (sets:I->List (Nat×V)) (hs:I->List Obj) (R:I->Prop)
  (h:JZ [] P x fr H (QZ (fun fr' H'=> ∃i,R i/\Weak H.length fr' H' (KK (sets i) (WO 0 ks fr)) (hs i)) Q)) (k: ∀i,R i->AWP P y (KK (sets i) (WO 0 ks fr)) (hs i) Q):AWP P (.seq x y) fr H Q :=
 fun F ι a w hr hf=>by
 refine wp_seq (wp_mono (Zh [] _ _ _ _ h F ι a w hr hf) ?_);rintro e a' w' ⟨fr',H',ι',q,g,f⟩
 cases e with
 | normal =>
  obtain ⟨i,hi,hw⟩:=q;obtain ⟨ι2,r2,f2,g2⟩:=hw F ι' a' w' g.rel f;refine wp_mono (k i hi F ι2 a' w' r2 f2) ?_;rintro e2 a2 w2 ⟨fr2,H2,ι3,q2,g3,f3⟩;exact ⟨fr2,H2,ι3,q2,(g2 H ι w (Zy _) g).trans g3,f3⟩
 | exit id=>exact ⟨fr',H',ι',q,g,f⟩
 | goto l=>exact ⟨fr',H',ι',q,g,f⟩
 | ret=>exact ⟨fr',H',ι',q,g,f⟩
 | panic ch=>exact ⟨fr',H',ι',q,g,f⟩
 | outgrown=>exact ⟨fr',H',ι',q,g,f⟩
theorem ZlO {H n x} :Ei H n x x=(refB n x=true\/x= .junk\/ ∃y,fI H n x=some y/\x= .p y):=by
 simp only [Ei,true_and,eq_iff_iff]
 grind
@[go_sem] theorem ZlM {H n x} :Ei H n x .junk=True:=by simp [Ei]
@[go_sem] theorem Zql {H n} {x y:PV} :Ei H n (.p x) (.p y)=(y=x):=by simp [Ei,refB,fI]
@[go_sem] theorem ZnT {H n o off len tot o' off' len' tot'} :Ei H n (.sl o off len tot) (.sl o' off' len' tot')=((o'=o/\off'=off/\len'=len/\tot'=tot)/\o<n):=by simp [Ei,refB]
@[go_sem] theorem ZlN {H n o off o' off'} :Ei H n (.ptr o off) (.ptr o' off')=((o'=o/\off'=off)/\o<n):=by simp [Ei,refB]
theorem wQ {H n o off len tot y} :Ei H n (.sl o off len tot) (.p y)=(fI H n (.sl o off len tot)=some y):=by simp [Ei]
@[go_sem] theorem ZnP {H n} :Pb H n [] []=True:=by simp [Pb]
@[go_sem] theorem ZlJ {H n x l x' l'} :Pb H n (x::l) (x'::l')=(Ei H n x x'/\Pb H n l l'):=by simp [Pb]
@[go_sem] theorem ZnQ {H n l} :O4 H n l []=True:=by simp [O4]
@[go_sem] theorem ZlK {H n x l x' l'} :O4 H n (x::l) (x'::l')=(Ft H n x x'/\O4 H n l l'):=by simp [O4]
@[go_sem] theorem Zhe {H n cs cs'} :Ft H n (.cells cs) (.cells cs')=Pb H n cs cs':=by simp [Ft]
@[go_sem] theorem Zhf {H n S S' xs xs'} :Ft H n (.elems S xs) (.elems S' xs')=(S=S'/\xs=xs'):=by simp [Ft]
@[go_sem] theorem ZnR {H n es es2} :Ft H n (.map es) (.map es2)=(es=es2):=by simp [Ft]
@[go_sem] theorem Zqk {H n o o2} :Ei H n (.mp o) (.mp o2)=(o2=o/\o<n):=by simp [Ei,refB,fI]
@[go_sem] theorem ZlL {H n} :Ft H n .dead .dead=True:=by simp [Ft]
theorem Weak.mk {n0 fr H fr' H'} (h:n0<=H'.length/\H'.length<=H.length/\Pb H H'.length fr fr'/\O4 H H'.length H H'):Weak n0 fr H fr' H':=Weak.of h.1 h.2.2.1 h.2.2.2 h.2.1
theorem wk {n0 fr H fr' H'} (h:n0<=H'.length/\H'.length<=H.length/\Pb H H'.length fr fr'/\O4 H H'.length H H':=by simp (disch:=omega) only [go_sem,seval]):Weak n0 fr H fr' H':=Weak.mk h
theorem we {n0 x H' a b} (h:n0<=List.length b/\List.length b<=H'.length/\Pb H' (List.length b) [x] [a]/\O4 H' (List.length b) H' b:=by simp (disch:=omega) only [go_sem,seval]): ∃y H'',Weak n0 [x] H' [y] H''/\y=a/\H''=b:=⟨_,_,Weak.mk h,rfl,rfl⟩
attribute [go_sem] List.length_cons List.length_nil List.cons_append List.nil_append List.append_nil List.map_cons List.map_nil List.drop_zero List.drop_succ_cons List.drop_nil List.take_succ_cons List.take_zero List.take_nil List.all_cons List.all_nil
 Xs Ui and_self true_and and_true AN AL EZ CD QR VQ Bool.and_self ZB if_true Yb W2 Ki IntWalk.i64_in IntWalk.i32_in IntWalk.u8_in IntWalk.u64_in IntWalk.u32_in
 beq_self_eq_true KY List.replicate_zero Bool.or_true Bool.true_or Bool.or_false Bool.false_or Yx WS
end Go.AM
namespace Go.AM
open Go.RowKit
theorem RP.weaker {X X':Nat->Prop} {w x v} (h:RP X w x v) (hx: ∀b,X' b->X b):RP X' w x v:=h.ext (w':=w) fun _ hb hs=>⟨fun h=>hb (hx _ h),hs,rfl⟩
theorem Good.forget {F w H' ι' w'} (he:Env F [] w) (hf: ∀b,F b->b<w.heap.size) (g:Good F [] [] w H' ι' w'):Good F [] [] w [] [] w' :=
 .up he ⟨⟨rfl,fun b hb=>by have:=hf b hb;have:=g.size;omega,fun i j b hi=>by simp at hi,fun i b hi=>by simp at hi,fun o cs ho=>by simp at ho,fun o S xs ho=>by simp at ho,fun o es ho=>by simp at ho,fun o T E r bs ho=>by simp at ho⟩,
  g.os,g.tape,g.output,fun b c t h=>(g.shape b c t h).imp (fun h=>absurd h.1 Zb) id,g.size,g.keep,fun _ _ h=>h,fun o ob ho=>by simp at ho⟩
theorem ACalls.pure {P g args} {y:PV} (h:ACalls P g args [] fun x _=>x= .p y):ACalls P g args [] fun x H'=>x= .p y/\H'= []:=by
 refine ⟨h.1,fun F ι w vs hr hv=> ?_⟩;have hι:ι= []:=YE hr.len;subst hι;refine (h.2 F [] w vs hr hv).mono ?_;rintro e w' ⟨x,H',ι',v,rfl,rfl,gd,rv⟩
 cases rv with | p _ _ rp =>
 exact ⟨_,[],[],v,rfl,⟨rfl,rfl⟩,gd.forget hr.env hr.fin,.p _ _ (rp.weaker fun b hb=> .inl (by rcases hb with hb | hb;exact hb;simp at hb))⟩
theorem F5 {F:Nat->Prop} {w w':World} {H':List Obj} {ι':List (Option Nat)} {v:Value} {o S n:Nat} {xs:List PV} (hF: ∀b,F b->b<w.heap.size) (hn:xs.length=n) (ho:oat H' o= .elems S xs)
  (gd:Good F [] [] w H' ι' w') (rv:RV F H' ι' w' (.sl o 0 n n) v): ∃ι2,Good F [] [] w [.elems S xs] ι2 w'/\RV F [.elems S xs] ι2 w' (.sl 0 0 n n) v:=by
 have hH:=XB ho Zb;have hlt:=(ZY.1 hH).1
 have hlt':o<ι'.length:=by rw [gd.rel.len];exact hlt
 have hι':ι'[o]? =some (ι'[o]):=by simp [hlt']
 have hget: ∀ {i:Nat} {q:Option Nat},[ι'[o]][i]? =some q->i=0/\ι'[o]? =some q:=fun {i q} h=>by
  grind
 have hown: ∀b,Own F [ι'[o]] b->Own F ι' b:=fun b hb=>by
  rcases hb with hb | hb
  ·exact .inl hb
  ·simp at hb;right;rw [hb];simp
 refine ⟨[ι'[o]],⟨⟨⟨rfl,fun b hb=> ?_,fun i j b hi hj=> ?_,fun i b hi=> ?_,fun o' cs ho'=> ?_,fun o' S' xs' ho'=> ?_,fun o' es ho'=>by grind,fun o' T E r bs ho'=>by grind⟩,gd.rel.env.le hown⟩,gd.os,gd.tape,gd.output,fun b c t h=>(gd.shape b c t h).imp (fun h=>absurd h.1 Zb) id,gd.size,gd.keep,fun b hb _ h=> ?_,fun o ob ho=>by simp at ho⟩,?_⟩
 ·have:=hF b hb;have:=gd.size;omega
 ·grind
 ·exact gd.rel.avo o b (hget hi).2
 ·grind
 ·cases o' with
  | zero =>
   simp at ho';obtain ⟨rfl,rfl⟩:=ho';rcases gd.rel.elm o _ _ hH with ⟨e1,e2⟩ | ⟨b,c,t,cap,e1,e2,e3,e4,e5,e6,e7⟩
   ·grind
   ·exact .inr ⟨b,c,t,cap,by grind,e2,e3,e4,e5,e6,fun i x j y hi hj=>(e7 i x j y hi hj).weaker hown⟩
  | succ i=>simp at ho'
 ·simp at h;exact gd.own b hb Zb (by rw [h];simp)
 ·cases rv with
  | slNil _ S2 a h1 h2 =>
   rw [hH] at h2;simp at h2;obtain ⟨rfl,rfl⟩:=h2;exact .slNil 0 S a (by grind) rfl
  | sl _ _ _ _ b S2 cap t xs2 c h1 h2 ht hw hcap hl hlen hm =>
   rw [hH] at h2;simp at h2;obtain ⟨rfl,rfl⟩:=h2;exact .sl 0 0 n n b S cap t xs c (by grind) rfl hn hw hcap hl hlen hm
  | slD _ _ _ _ _ h1=>grind
  | slS _ _ _ _ _ S2 xs2 h1 hne=>grind
  | slC _ _ _ _ _ _ hd=>grind
theorem ACalls.fresh {P g args} {S n:Nat} {xs:List PV} (hn:xs.length=n) (h:ACalls P g args [] fun x H'=> ∃o,x= .sl o 0 n n/\oat H' o= .elems S xs):ACalls P g args [] fun x H'=>x= .sl 0 0 n n/\H'= [.elems S xs]:=by
 refine ⟨h.1,fun F ι w vs hr hv=> ?_⟩;have hι:ι= []:=YE hr.len;subst hι;refine (h.2 F [] w vs hr hv).mono ?_;rintro e w' ⟨x,H',ι',v,rfl,⟨o,rfl,ho⟩,gd,rv⟩;obtain ⟨ι2,g2,r2⟩:=F5 hr.fin hn ho gd rv
 grind
theorem ACalls.freshE {P g args} {α:Type} {S:Nat} {f:α->PV} {R:List α->Prop} (h:ACalls P g args [] fun x H'=> ∃l:List α,R l/\ ∃o,x= .sl o 0 l.length l.length/\oat H' o= .elems S (l.map f)) :
  ACalls P g args [] fun x H'=> ∃l:List α,R l/\x= .sl 0 0 l.length l.length/\H'= [.elems S (l.map f)]:=by
 refine ⟨h.1,fun F ι w vs hr hv=> ?_⟩;have hι:ι= []:=YE hr.len;subst hι;refine (h.2 F [] w vs hr hv).mono ?_;rintro e w' ⟨x,H',ι',v,rfl,⟨l,hl,o,rfl,ho⟩,gd,rv⟩;obtain ⟨ι2,g2,r2⟩:=F5 hr.fin Zb ho gd rv
 grind
theorem ACalls.frozen {P g args} {S n:Nat} {xs:List PV} (hn:xs.length=n) (h:ACalls P g args [] fun x H'=>x= .sl 0 0 n n/\H'= [.elems S xs]):ACalls P g args [] fun x H'=>x= .p (.list false xs)/\H'= []:=by
 refine ⟨h.1,fun F ι w vs hr hv=> ?_⟩;have hι:ι= []:=YE hr.len;subst hι;refine (h.2 F [] w vs hr hv).mono ?_;rintro e w' ⟨x,H',ι',v,rfl,⟨rfl,rfl⟩,gd,rv⟩;have hk:Keeps (Own F ι') w' (Own F []) w':=fun b hb hs=>⟨fun h=>hb (.inl (by rcases h with h | h;exact h;simp at h)),hs,rfl⟩
 have:=BR (S:=S) (xs:=xs) (off:=0) (len:=n) (tot:=n) (Own F []) (fun b hb h=>by
  rcases h with h | h
  ·exact (gd.rel.avo 0 b hb).1 h
  ·simp at h) hk gd.rel rfl hn Za rv
 rw [Xs,E8,CF Za] at this;exact ⟨_,[],[],v,rfl,⟨rfl,rfl⟩,gd.forget hr.env hr.fin,.p _ _ this⟩
theorem ACalls.frozenE {P g args} {α:Type} {S:Nat} {f:α->PV} {R:List α->Prop} (h:ACalls P g args [] fun x H'=> ∃l:List α,R l/\x= .sl 0 0 l.length l.length/\H'= [.elems S (l.map f)]) :
  ACalls P g args [] fun x H'=> ∃l:List α,R l/\x= .p (.list false (l.map f))/\H'= []:=by
 refine ⟨h.1,fun F ι w vs hr hv=> ?_⟩;have hι:ι= []:=YE hr.len;subst hι;refine (h.2 F [] w vs hr hv).mono ?_;rintro e w' ⟨x,H',ι',v,rfl,⟨l,hl,rfl,rfl⟩,gd,rv⟩;have hk:Keeps (Own F ι') w' (Own F []) w':=fun b hb hs=>⟨fun h=>hb (.inl (by rcases h with h | h;exact h;simp at h)),hs,rfl⟩
 have:=BR (S:=S) (xs:=l.map f) (off:=0) (len:=l.length) (tot:=l.length) (Own F []) (fun b hb h=>by
  rcases h with h | h
  ·exact (gd.rel.avo 0 b hb).1 h
  ·simp at h) hk gd.rel rfl Zb Za rv
 rw [Xs,E8,CF Zb] at this;exact ⟨_,[],[],v,rfl,⟨l,hl,rfl,rfl⟩,gd.forget hr.env hr.fin,.p _ _ this⟩
theorem ACalls.useV {P g args} {α:Type} {f:α->PV} {R:α->Prop} {H:List Obj} {K:V->List Obj->Prop} (h:ACalls P g args [] fun x H'=> ∃a:α,R a/\x= .p (f a)/\H'= []) (k: ∀a,R a->K (.p (f a)) H) (ha:Xu 0 args=true:=by rfl):ACalls P g args H K:=by
 refine (h.behind ha H).mono ?_;rintro x H' ⟨y',H1,⟨a,ra,rfl,rfl⟩,rfl,rfl⟩
 grind [shV]
theorem ACalls.useE {P g args} {α:Type} {S:Nat} {f:α->PV} {R:List α->Prop} {H:List Obj} {K:V->List Obj->Prop} (h:ACalls P g args [] fun x H'=> ∃l:List α,R l/\x= .sl 0 0 l.length l.length/\H'= [.elems S (l.map f)])
  (k: ∀l,R l->K (.sl H.length 0 l.length l.length) (H++ [.elems S (l.map f)])) (ha:Xu 0 args=true:=by rfl):ACalls P g args H K:=by
 refine (h.behind ha H).mono ?_;rintro x H' ⟨y',H1,⟨l,rl,rfl,rfl⟩,rfl,rfl⟩
 grind [shV,shO]
theorem ACalls.use {P g args} {y:PV} {H:List Obj} {K:V->List Obj->Prop} (h:ACalls P g args [] fun x H'=>x= .p y/\H'= []) (k:K (.p y) H) (ha:Xu 0 args=true:=by rfl):ACalls P g args H K:=by
 refine (h.behind ha H).mono ?_;rintro x H' ⟨y',H1,⟨rfl,rfl⟩,rfl,rfl⟩
 grind [shV]
theorem ACalls.useF {P g args} {S n:Nat} {xs:List PV} {H:List Obj} {K:V->List Obj->Prop} (h:ACalls P g args [] fun x H'=>x= .sl 0 0 n n/\H'= [.elems S xs]) (k:K (.sl H.length 0 n n) (H++ [.elems S xs])) (ha:Xu 0 args=true:=by rfl):ACalls P g args H K:=by
 refine (h.behind ha H).mono ?_;rintro x H' ⟨y',H1,⟨rfl,rfl⟩,rfl,rfl⟩
 grind [shV,shO]
theorem Zc {P:Program} {g:FuncId} {fn:Func} {c:Code} {args:List V} {y:PV} (hf:P.funcs[g]? =some fn) (hb:fn.body=some c) (hg:Zj P g)
  (h:JZ [] P c (args++List.replicate (fn.ntmps-args.length) .junk) [] (BP P fn.results.toList fun x _=>x= .p y)):ACalls P g args [] fun x H'=>x= .p y/\H'= [] :=
 (Y1 hf hb hg (Zh [] _ _ _ _ h)).pure
theorem VE (cuts:List Nat) {P:Program} {g:FuncId} {fn:Func} {c:Code} {args:List V} {y:PV} (hf:P.funcs[g]? =some fn) (hb:fn.body=some c) (hg:Zj P g)
  (h:JZ cuts P c (args++List.replicate (fn.ntmps-args.length) .junk) [] (BP P fn.results.toList fun x _=>x= .p y)):ACalls P g args [] fun x H'=>x= .p y/\H'= [] :=
 (Y1 hf hb hg (Zh cuts _ _ _ _ h)).pure
theorem UX {P:Program} {g:FuncId} {fn:Func} {c:Code} {args:List V} {S n:Nat} {xs:List PV} (hn:xs.length=n) (hf:P.funcs[g]? =some fn) (hb:fn.body=some c) (hg:Zj P g)
  (h:JZ [] P c (args++List.replicate (fn.ntmps-args.length) .junk) [] (BP P fn.results.toList fun x H'=> ∃o,x= .sl o 0 n n/\oat H' o= .elems S xs)):ACalls P g args [] fun x H'=>x= .sl 0 0 n n/\H'= [.elems S xs] :=
 (Y1 hf hb hg (Zh [] _ _ _ _ h)).fresh hn
theorem Hh (cuts:List Nat) {P:Program} {g:FuncId} {fn:Func} {c:Code} {args:List V} {S n:Nat} {xs:List PV} (hn:xs.length=n) (hf:P.funcs[g]? =some fn) (hb:fn.body=some c) (hg:Zj P g)
  (h:JZ cuts P c (args++List.replicate (fn.ntmps-args.length) .junk) [] (BP P fn.results.toList fun x H'=> ∃o,x= .sl o 0 n n/\oat H' o= .elems S xs)):ACalls P g args [] fun x H'=>x= .sl 0 0 n n/\H'= [.elems S xs] :=
 (Y1 hf hb hg (Zh cuts _ _ _ _ h)).fresh hn
theorem ZI (cuts:List Nat) {P:Program} {g:FuncId} {fn:Func} {c:Code} {args:List V} {α:Type} {S:Nat} {f:α->PV} {R:List α->Prop} (hf:P.funcs[g]? =some fn) (hb:fn.body=some c) (hg:Zj P g)
  (h:JZ cuts P c (args++List.replicate (fn.ntmps-args.length) .junk) [] (BP P fn.results.toList fun x H'=> ∃l:List α,R l/\ ∃o,x= .sl o 0 l.length l.length/\oat H' o= .elems S (l.map f))):ACalls P g args [] fun x H'=> ∃l:List α,R l/\x= .sl 0 0 l.length l.length/\H'= [.elems S (l.map f)] :=
 (Y1 hf hb hg (Zh cuts _ _ _ _ h)).freshE
theorem Weak.ofNil {n0 fr H fr' H'} (t S:Nat) (h:gt fr t= .p (.list true [])) (hn:n0<=H.length) (k:Weak n0 (pt fr t (.sl H.length 0 0 0)) (H++ [.elems S []]) fr' H'):Weak n0 fr H fr' H' :=
 (Weak.nil t S h hn).trans k
end Go.AM
namespace Go.AM
open Go.RowKit
section
variable {P : Program} {H : List Obj} {t : TypeId} {fr : List V}
def FF (e:Option (Option Nat×Nat)) (c:Bool) (xs:List PV) (lo hi:V):Option V:=match e,lo,hi with
 | some (none,S),.p (.int _ a),.p (.int _ b)=>if B6 S xs=true/\0<=a/\a<=b/\b<=xs.length then some (.p (.list (c&&decide (b=xs.length)) ((xs.take b.toNat).drop a.toNat))) else none
 | _,_,_=>none
def V.isInt : V->Option Int
 | .p (.int _ n)=>some n
 | _=>none
theorem V.isInt_some {x:V} {n} (h:x.isInt=some n): ∃k,x= .p (.int k n):=by
 unfold V.isInt at h;grind
theorem Jq {d:Int} {x:Operand} :O9 d fr (some x)=(ev fr x).isInt:=rfl
theorem Dx {c xs k k' a b} :(JY P t c xs a b none).map .p=FF (Wu P t) c xs (.p (.int k a)) (.p (.int k' b)):=by
 simp only [JY,FF]
 grind
theorem Sb {e c xs lo hi} (h:lo.isInt=none):FF e c xs lo hi=none:=by
 unfold FF;grind [V.isInt]
theorem Sa {e c xs lo hi} (h:hi.isInt=none):FF e c xs lo hi=none:=by
 unfold FF;grind [V.isInt]
@[go_sem] theorem Zfd {c xs hi} :Vn P H t fr (.p (.list c xs)) none (some hi) none=FF (Wu P t) c xs (.p (.int .i64 0)) (ev fr hi):=by
 simp only [Vn,Jq]
 cases h:(ev fr hi).isInt with
 | none=>simp [O9,Sa h]
 | some n=>obtain ⟨k,e⟩:=V.isInt_some h;rw [e,<- Dx];rfl
@[go_sem] theorem Zfe {c xs lo} :Vn P H t fr (.p (.list c xs)) (some lo) none none=FF (Wu P t) c xs (ev fr lo) (.p (.int .i64 (List.length xs))):=by
 simp only [Vn,Jq]
 cases h:(ev fr lo).isInt with
 | none=>simp [Sb h]
 | some n=>obtain ⟨k,e⟩:=V.isInt_some h;rw [e,<- Dx];rfl
@[go_sem] theorem wZ {c xs lo hi} :Vn P H t fr (.p (.list c xs)) (some lo) (some hi) none=FF (Wu P t) c xs (ev fr lo) (ev fr hi):=by
 simp only [Vn,Jq]
 cases h:(ev fr lo).isInt with
 | none=>simp [Sb h]
 | some n =>
  cases h2:(ev fr hi).isInt with
  | none=>simp [Sa h2]
  | some m=>grind [V.isInt_some,Dx]
@[go_sem] theorem Zil {α:Type} {f:α->PV} {l:List α} {S c k k' a b} (h0:0<=a) (h1:a<=b) (h2:b<=(l.length:Int)) :
  FF (some (none,S)) c (l.map f) (.p (.int k a)) (.p (.int k' b))=if B6 S (l.map f)=true then some (.p (.list (c&&decide (b=l.length)) (((l.take b.toNat).drop a.toNat).map f))) else none:=by
 simp_all [FF]
end
def ML (P:Program) (d:Option TypeDesc) (x i:V):Option V :=
 match d,x,i with
 | some .string,.p (.str s),.p (.int _ n)=>if 0<=n then (s[n.toNat]?).map fun b=> .p (.int .u8 b.toNat) else none
 | some (.array k e),.p (.agg cs),.p (.int _ n)=>if 0<=n/\n<k then (match Wa P e with | some m=>(apart P e cs (n.toNat*m)).map .p | none=>none) else none
 | _,_,_=>none
@[go_sem] theorem Zl2 {P:Program} {t:TypeId} {x i:V} :MM P t x i=ML P (P.underlying t) x i:=Zm rfl rfl
@[go_sem] theorem ZeT {P:Program} {s:List UInt8} {k n} (h0:0<=n) (h1:n<(s.length:Int)):ML P (some .string) (.p (.str s)) (.p (.int k n))=some (.p (.int .u8 ((nth s n.toNat).toNat:Nat))):=by
 grind [ML,Zi]
def Lc (d:Option TypeDesc) (s:List UInt8) (lo hi:V):Option V:=match d,lo,hi with
 | some .string,.p (.int _ a),.p (.int _ b)=>if 0<=a/\a<=b/\b<=s.length then some (.p (.str ((s.take b.toNat).drop a.toNat))) else none
 | _,_,_=>none
theorem rK {d s lo hi} (h:lo.isInt=none):Lc d s lo hi=none:=by
 unfold Lc;grind [V.isInt]
theorem rJ {d s lo hi} (h:hi.isInt=none):Lc d s lo hi=none:=by
 unfold Lc;grind [V.isInt]
section
variable {P : Program} {H : List Obj} {t : TypeId} {fr : List V}
theorem T6 {s:List UInt8} {k k' a b} :(match P.underlying t with | some .string=>(if 0<=a/\a<=b/\b<=(s.length:Int) then some (V.p (.str ((s.take b.toNat).drop a.toNat))) else none) | _=>none)=Lc (P.underlying t) s (.p (.int k a)) (.p (.int k' b)):=by
 simp only [Lc]
 grind
@[go_sem] theorem rL {s lo hi} :Vn P H t fr (.p (.str s)) (some lo) (some hi) none=Lc (P.underlying t) s (ev fr lo) (ev fr hi):=by
 simp only [Vn,Jq]
 cases h:(ev fr lo).isInt with
 | none=>rw [rK h];simp
 | some n =>
  cases h2:(ev fr hi).isInt with
  | none=>rw [rJ h2];simp
  | some m =>
   grind [V.isInt_some,T6]
def MS (e:Option (Option Nat×Nat)) (xs:List PV) (hi mx:V):Option V:=match e,hi,mx with
 | some (none,S),.p (.int _ b),.p (.int _ m)=>if B6 S xs=true/\0<=b/\b<=xs.length/\m=b then some (.p (.list true (xs.take b.toNat))) else none
 | _,_,_=>none
theorem rH {e xs hi mx} (h:hi.isInt=none):MS e xs hi mx=none:=by
 unfold MS;grind [V.isInt]
theorem rI {e xs hi mx} (h:mx.isInt=none):MS e xs hi mx=none:=by
 unfold MS;grind [V.isInt]
@[go_sem] theorem wY {c xs hi mx} :Vn P H t fr (.p (.list c xs)) none (some hi) (some mx)=MS (Wu P t) xs (ev fr hi) (ev fr mx):=by
 simp only [Vn,Jq]
 cases h:(ev fr hi).isInt with
 | none=>grind [rH]
 | some n =>
  cases h2:(ev fr mx).isInt with
  | none=>grind [rI]
  | some m =>
   obtain ⟨k,e⟩:=V.isInt_some h;obtain ⟨k2,e2⟩:=V.isInt_some h2;rw [e,e2];simp only [O9,JY,MS]
   grind
@[go_sem] theorem Zik {α:Type} {f:α->PV} {l:List α} {S k k' b m} (h0:m=b) (h1:b=(l.length:Int)):MS (some (none,S)) (l.map f) (.p (.int k b)) (.p (.int k' m))=if B6 S (l.map f)=true then some (.p (.list true (l.map f))) else none:=by
 subst h0;subst h1;simp only [MS,ZB]
 by_cases h:B6 S (l.map f)=true
 ·simp_all [CF]
 grind
end
@[go_sem low] theorem gP {H:List Obj} {S b xs ys o n} :Uq H (some (S,b)) (.elems S xs) o n (some ys)=if xs.length=n/\K5 S ys=true/\(n+ys.length)*b<=140737488355328/\n+ys.length<=140737488355328 then some (.sl o 0 (n+ys.length) (n+ys.length),Gx H o (.elems S (xs++ys))) else none:=by simp [Uq]
@[go_sem] theorem ZnS {H:List Obj} {n f a b f' a' b'} :Ei H n (.fn f a b) (.fn f' a' b')=((f'=f/\a'=a/\b'=b)/\refB n (.fn f a b)=true):=by simp [Ei,fI]
@[go_sem] theorem Zm6 {n f a b} :refB n (.fn f a b)=(Xu n a&&Xu n b):=by simp [refB]
@[go_sem] theorem ZoN {n x} :refB n (.p x)=true:=by simp [refB]
@[go_sem] theorem ZkO {n o off} :refB n (.ptr o off)=decide (o<n):=by simp [refB]
@[go_sem] theorem Zm7 {n o off l t} :refB n (.sl o off l t)=decide (o<n):=by simp [refB]
@[go_sem] theorem ZfZ {n} :Xu n []=true:=by simp [Xu]
@[go_sem] theorem ZdY {n x l} :Xu n (x::l)=(refB n x&&Xu n l):=by simp [Xu]
theorem ACalls.useH {P g args H} {v:V} {H2:List Obj} {K:V->List Obj->Prop} (h:ACalls P g args H fun x H'=>x=v/\H'=H2) (k:K v H2):ACalls P g args H K :=
 h.mono (by grind)
theorem B7 {α:Type} {f:α->PV} {S:Nat} (h: ∀x,(f x).cells.length=S) (l:List α):B6 S (l.map f)=true:=by
 cases l with
 | nil=>rfl
 | cons x l=>simp [B6,h]
@[go_sem] theorem Zl6 {k k'} {a b:Int} (h:b<=a):I6 false [.p (.int k a),.p (.int k' b)]=some (.int k a):=by simp [I6];omega
def Q5 (F:Option (Nat×Nat×PV)) (H:List Obj) (x y:V):Option (V×List Obj):=match F,x,y with
 | some (S,by',z),.p (.int .i64 n),.p (.int .i64 m)=>if n=m/\0<=n/\(by':Int)*n<=281474976710656/\n<=281474976710656 then some (.sl H.length 0 n.toNat n.toNat,H++ [.elems S (List.replicate n.toNat z)]) else none
 | _,_,_=>none
theorem FB {P:Program} {t:TypeId} {fr:List V} {H:List Obj} {x y:Operand} {F} (h:S5 P t=some F):Ve P (.makeSlice t x y) fr H=Q5 (some F) H (ev fr x) (ev fr y):=by
 unfold S5 at h
 split at h
 ·rename_i e hu
  split at h
  ·rename_i S' z' b h1 h2 h3
   split at h
   ·rename_i hc;simp at h;subst h
    have h3':(P.info? e).map (fun x=>(x.bytes:Int))=some (b:Int):=by
     cases hi:P.info? e with
     | none=>grind
     | some i=>grind
    simp only [Ve,hu,h2,hc.1,if_true,R6,h1,h3'];generalize ev fr x=X;generalize ev fr y=Y
    by_cases hX: ∃n,X= .p (.int .i64 n)
    ·obtain ⟨n,rfl⟩:=hX
     by_cases hY: ∃m,Y= .p (.int .i64 m)
     ·obtain ⟨m,rfl⟩:=hY;simp [Q5,hc.2]
     ·have e1:Q5 (some (S',b,z')) H (.p (.int .i64 n)) Y=none:=by
       unfold Q5;grind
      grind
    ·have e1:Q5 (some (S',b,z')) H X Y=none:=by
      unfold Q5;grind
     grind
   ·cases h
  ·cases h
 ·cases h
@[go_sem] theorem Ze2 {H:List Obj} {S b:Nat} {z n} (h0:0<=n) (h1:(b:Int)*n<=281474976710656) (h2:n<=281474976710656):Q5 (some (S,b,z)) H (.p (.int .i64 n)) (.p (.int .i64 n))=some (.sl H.length 0 n.toNat n.toNat,H++ [.elems S (List.replicate n.toNat z)]):=by
 simp_all [Q5]
theorem ZdL (x y:Nat) (hx:x<9223372036854775808) (hy:y<9223372036854775808):IntKind.i64.wrap ((BitVec.ofInt 64 (x:Int)|||BitVec.ofInt 64 (y:Int)).toNat:Int)=((x|||y:Nat):Int):=by
 have e:(BitVec.ofInt 64 (x:Int)|||BitVec.ofInt 64 (y:Int)).toNat=x|||y:=by
  grind
 have h:x|||y<2^63:=Ji Za Za
 grind [IntWalk.i64_in]
theorem qT (x y:Nat) (hx:x<9223372036854775808) (hy:y<9223372036854775808):IntKind.i64.wrap ((BitVec.ofInt 64 (x:Int)&&&BitVec.ofInt 64 (y:Int)).toNat:Int)=((x&&&y:Nat):Int):=by
 grind [Nat.and_le_left,IntWalk.i64_in]
@[go_sem high] theorem fV {P:Program} {t:TypeId} {x y:Nat} (hx:x<9223372036854775808) (hy:y<9223372036854775808):Yr P .or t (.p (.int .i64 (x:Int))) (.p (.int .i64 (y:Int)))=some (.int .i64 ((x|||y:Nat):Int)):=by
 rw [R2];exact ZS (fun q=>some (PV.int .i64 q)) (ZdL x y hx hy)
@[go_sem high] theorem TU {P:Program} {t:TypeId} {x y:Nat} (hx:x<9223372036854775808) (hy:y<9223372036854775808):Yr P .and t (.p (.int .i64 (x:Int))) (.p (.int .i64 (y:Int)))=some (.int .i64 ((x&&&y:Nat):Int)):=by
 rw [fT];exact ZS (fun q=>some (PV.int .i64 q)) (qT x y hx hy)
def pw (k:Nat):Nat:=2^k
theorem Fj (k:Nat):pw (k+1)=2*pw k:=by grind [pw]
theorem KD {k m:Nat} (h:k<=m):pw k<=pw m:=Yw Za h
theorem GE (k:Nat):0<pw k:=Nat.pow_pos Za
theorem GD : pw 62=4611686018427387904:=by decide
@[go_sem high] theorem ZeE {P:Program} {t:TypeId} {k'} {a:Int} (h0:0<=a) (h1:a<=62):Yr P .shl t (.p (.int .i64 1)) (.p (.int k' a))=some (.int .i64 ((pw a.toNat:Nat):Int)):=by
 rw [fX h0]
 have h2:min a.toNat IntKind.i64.bits=a.toNat:=by show min a.toNat 64=a.toNat;omega
 rw [h2,Int.one_mul]
 have h3:((2:Int)^a.toNat)=((pw a.toNat:Nat):Int):=by simp [pw]
 rw [h3];have:=KD (show a.toNat<=62 by omega)
 grind [GD,IntWalk.i64_in]
attribute [go_sem] List.length_append List.map_append not_false_eq_true not_true_eq_false false_and and_false true_or or_true false_or or_false Classical.not_not Bool.false_eq_true Bool.and_false Bool.false_and
end Go.AM
namespace Go.AM
open Go.RowKit
theorem LH {P ds frJ H} {K K':List V->Prop} : ∀(l:List Oper) (i:Nat) (vals:List V),(∀ys,ys.length=vals.length+l.length->K ys->K' ys)->hd P ds frJ H K i l vals->hd P ds frJ H K' i l vals
 | [],i,vals,hk,h=>hk vals rfl h
 | o::l,i,vals,hk,h=>by
  have ih: ∀y,hd P ds frJ H K (i+1) l (vals++ [y])->hd P ds frJ H K' (i+1) l (vals++ [y]):=fun y=>LH l (i+1) (vals++ [y]) fun ys hy=>hk ys (by simp at hy ⊢;omega);simp only [hd] at h ⊢
  split at h
  ·obtain ⟨y,h1,h2⟩:=h;exact ⟨y,h1,ih y h2⟩
  ·unfold XV at h ⊢
   split at h
   ·exact ⟨fun e=>by obtain ⟨y,h1,h2⟩:=h.1 e;exact ⟨y,h1,ih y h2⟩,fun e=>ih _ (h.2 e)⟩
   ·exact ih _ h
   ·exact h.elim
def hall : List (Option Nat)->List V->List V->List V
 | some d::ds,v::vals,fr=>hall ds vals (pt fr d v)
 | none::ds,_::vals,fr=>hall ds vals fr
 | _,_,fr=>fr
theorem BE (d:Option Nat) (v:V) (ds:List (Option Nat)) (vals:List V): ∀(l:List Nat) (fr:List V),ZP (d::ds) (v::vals) (l.map (· +1)) fr=ZP ds vals l fr
 | [],fr=>rfl
 | j::l,fr=>by
  simp only [Zt,ZP,CD]
  split<;>exact BE d v ds vals l _
theorem F9 : ∀(ds:List (Option Nat)) (vals:List V) (fr:List V),vals.length=ds.length->ZP ds vals (List.range ds.length) fr=hall ds vals fr
 | [],[],fr,_=>rfl
 | d::ds,v::vals,fr,h=>by
  have ih:=fun fr=>F9 ds vals fr (by simpa using h);rw [ZE,List.range_succ_eq_map]
  cases d with
  | none=>simp only [ZP,EZ,hall];rw [BE];exact ih fr
  | some d=>simp only [ZP,EZ,hall];rw [BE];exact ih _
 | [],_::_,_,h=>by simp at h
 | _::_,[],_,h=>by simp at h
theorem FG {P:Program} {id:Nat} {l:List Oper} {fr:List V} {H:List Obj} {Q:Exit->List V->List Obj->Prop} {t} (hm:P.follows .mixedOrders=true) (hB:Vg (List.toArray l) l.length=true)
  (h:hd P (l.map (·.dst)) (Z5 (l.map (·.dst)) fr) H (Zw (fun vals=>Q .normal (hall (l.map (·.dst)) vals (Z5 (l.map (·.dst)) fr)) H) ⟨⟩) 0 l []) :
  AWP P (.region id (Zw (List.toArray l) t) true) fr H Q:=by
 refine HF (ops:=List.toArray l) l.length hm hB ?_;have e0:(List.toArray l).toList=l:=rfl;rw [e0];have e1:(l.map (fun x=>Oper.dst x)).take l.length=l.map (·.dst):=CF Zb;have e2:l.take l.length=l:=X1
 have e3:l.drop l.length= []:=Zb
 rw [e1,e2,e3];refine LH _ _ _ (fun ys hy hk=> ?_) h;have e4:=F9 (l.map (·.dst)) ys (Z5 (l.map (·.dst)) fr) (by grind);rw [ZB] at e4;simp only [YL];rw [e4];exact hk
def bC (A:V->Prop) (B:V->Prop):Prop:= ∃y,A y/\B y
section
variable {P : Program} {ds : List (Option Nat)} {frJ : List V} {H : List Obj} {K : List V -> Prop} {i : Nat} {r : List Oper} {vals : List V} {d : Option Nat} {op : Op} {t : TypeId} {ps : String} {af : Array Edge}
@[go_sem ↓] theorem Zop : hd P ds frJ H K i [] vals=K vals:=Zm rfl rfl
@[go_sem ↓] theorem ZmJ : hd P ds frJ H K i (⟨d,op,t,ps,af,none⟩::r) vals=bC (fun y=>ZL P ⟨d,op,t,ps,af,none⟩ (LI (ZP ds vals (ZT i ⟨d,op,t,ps,af,none⟩) frJ)) H (Zw (fun x H'=>x=y/\H'=H) ⟨⟩)) (Zw (fun y=>hd P ds frJ H K (i+1) r (vals++ [y])) ⟨⟩):=Zm rfl rfl
@[go_sem ↓, go_sem] theorem Zof {v:V} {B:V->Prop} {t} :bC (fun y=>v=y) (Zw B t)=B v:=by simp [bC,Zw]
@[go_sem] theorem Zfy {l:List Edge} {g} :ZT i ⟨d,op,t,ps,List.toArray l,g⟩=(l.filter fun e=>Region.binds .any e&&decide (e.on<i)).map (·.on):=Zm rfl rfl
@[go_sem] theorem Zap {on} :Region.binds .any ⟨on,.data⟩=true:=Zm rfl rfl
@[go_sem] theorem xM {on} :Region.binds .any ⟨on,.phase⟩=true:=Zm rfl rfl
@[go_sem] theorem xL {on} :Region.binds .any ⟨on,.chain⟩=true:=Zm rfl rfl
@[go_sem] theorem Zaq {on k} :Region.binds .any ⟨on,.textOnly k⟩=false:=Zm rfl rfl
@[go_sem] theorem Zis {on k} :Region.binds .any ⟨on,.gcOnly k⟩=false:=Zm rfl rfl
def SL (ds:List (Option Nat)) (vals:List V) (l:List Nat) (fr:List V) (a:Option (Option Nat)) (v:Option V):List V:=match a,v with
 | some (some d),some v=>ZP ds vals l (pt fr d v)
 | _,_=>ZP ds vals l fr
@[go_sem] theorem ZiZ {fr} :ZP ds vals [] fr=fr:=Zm rfl rfl
@[go_sem] theorem ZfI {j l fr} :ZP ds vals (j::l) fr=SL ds vals l fr ds[j]? vals[j]? :=by rfl
@[go_sem] theorem ZaV {l fr d v} :SL ds vals l fr (some (some d)) (some v)=ZP ds vals l (pt fr d v):=Zm rfl rfl
@[go_sem] theorem ZfC {d ds v vals fr} :hall (some d::ds) (v::vals) fr=hall ds vals (pt fr d v):=Zm rfl rfl
@[go_sem] theorem ZiT {fr} :hall [] [] fr=fr:=Zm rfl rfl
@[go_sem] theorem ZfH {fr} :Z5 [] fr=fr:=Zm rfl rfl
@[go_sem] theorem ZaU {d l fr} :Z5 (some d::l) fr=Z5 l (pt fr d .junk):=Zm rfl rfl
theorem Zo {f azs} {z:PV} {B:V->Prop} {t} (h:ACalls P f azs [] fun x H'=>x= .p z/\H'= []) (k:B (.p z)) (ha:Xu 0 azs=true:=by rfl) :
  bC (fun y=>ACalls P f azs H (Zw (Zw (fun x H'=>x=y/\H'=H) ⟨⟩) ⟨⟩)) (Zw B t) :=
 ⟨.p z,h.use ⟨rfl,rfl⟩ ha,k⟩
end
section
variable {P : Program} {fr : List V} {H : List Obj} {k : V -> List Obj -> Prop} {d : Option Nat} {t : TypeId} {ps : String} {af : Array Edge} {g : Option (Nat × Bool)}
@[go_sem ↓] theorem Zac {u n l} :ZL P ⟨d,.buildSlice u n (List.toArray l),t,ps,af,g⟩ fr H k=BN ((R4 (U5 P u) H n (l.map fun x=>(x.1,ev fr x.2))).map .p) (Zw (fun v=>k v H) ⟨⟩):=by
 grind [ZL,BN,Zw]
@[go_sem] theorem zJ {S n l} :R4 (some S) H n l=if n=l.length/\n*S<=16777216/\0<S then (JD H S 0 l).map (.list false) else none:=Zm rfl rfl
@[go_sem ↓] theorem xC {x} :ZL P ⟨d,.move x,t,ps,af,g⟩ fr H k=Zz P ⟨d,.move x,t,ps,af,g⟩ fr H k:=rfl
@[go_sem ↓] theorem qD {x} :ZL P ⟨d,.assign x,t,ps,af,g⟩ fr H k=Zz P ⟨d,.assign x,t,ps,af,g⟩ fr H k:=rfl
@[go_sem ↓] theorem xD {x y z} :ZL P ⟨d,.pick x y z,t,ps,af,g⟩ fr H k=Zz P ⟨d,.pick x y z,t,ps,af,g⟩ fr H k:=rfl
@[go_sem ↓] theorem rM {x} :ZL P ⟨d,.alloc x,t,ps,af,g⟩ fr H k=Zz P ⟨d,.alloc x,t,ps,af,g⟩ fr H k:=rfl
@[go_sem ↓] theorem Zaa {x y} :ZL P ⟨d,.box x y,t,ps,af,g⟩ fr H k=Zz P ⟨d,.box x y,t,ps,af,g⟩ fr H k:=rfl
@[go_sem ↓] theorem rO {x y} :ZL P ⟨d,.build x y,t,ps,af,g⟩ fr H k=Zz P ⟨d,.build x y,t,ps,af,g⟩ fr H k:=rfl
@[go_sem ↓] theorem xB {x y} :ZL P ⟨d,.load x y,t,ps,af,g⟩ fr H k=Zz P ⟨d,.load x y,t,ps,af,g⟩ fr H k:=rfl
@[go_sem ↓] theorem rS {x y z} :ZL P ⟨d,.store x y z,t,ps,af,g⟩ fr H k=Zz P ⟨d,.store x y z,t,ps,af,g⟩ fr H k:=rfl
@[go_sem ↓] theorem fC {x} :ZL P ⟨d,.nilCheck x,t,ps,af,g⟩ fr H k=Zz P ⟨d,.nilCheck x,t,ps,af,g⟩ fr H k:=rfl
@[go_sem ↓] theorem rN {x y z u v} :ZL P ⟨d,.binOp x y z u v,t,ps,af,g⟩ fr H k=Zz P ⟨d,.binOp x y z u v,t,ps,af,g⟩ fr H k:=rfl
@[go_sem ↓] theorem xE {x y z} :ZL P ⟨d,.unOp x y z,t,ps,af,g⟩ fr H k=Zz P ⟨d,.unOp x y z,t,ps,af,g⟩ fr H k:=rfl
@[go_sem ↓] theorem gW {x y z} :ZL P ⟨d,.convert x y z,t,ps,af,g⟩ fr H k=Zz P ⟨d,.convert x y z,t,ps,af,g⟩ fr H k:=rfl
@[go_sem ↓] theorem fB {x y z} :ZL P ⟨d,.makeFunc x y z,t,ps,af,g⟩ fr H k=Zz P ⟨d,.makeFunc x y z,t,ps,af,g⟩ fr H k:=rfl
@[go_sem ↓] theorem T9 {x y z} :ZL P ⟨d,.makeSlice x y z,t,ps,af,g⟩ fr H k=Zz P ⟨d,.makeSlice x y z,t,ps,af,g⟩ fr H k:=rfl
@[go_sem ↓] theorem rR {x y z u v} :ZL P ⟨d,.slice x y z u v,t,ps,af,g⟩ fr H k=Zz P ⟨d,.slice x y z u v,t,ps,af,g⟩ fr H k:=rfl
@[go_sem ↓] theorem T7 {x y z} :ZL P ⟨d,.fieldAddr x y z,t,ps,af,g⟩ fr H k=Zz P ⟨d,.fieldAddr x y z,t,ps,af,g⟩ fr H k:=rfl
@[go_sem ↓] theorem rP {x y z} :ZL P ⟨d,.field x y z,t,ps,af,g⟩ fr H k=Zz P ⟨d,.field x y z,t,ps,af,g⟩ fr H k:=rfl
@[go_sem ↓] theorem T8 {x y z} :ZL P ⟨d,.indexAddr x y z,t,ps,af,g⟩ fr H k=Zz P ⟨d,.indexAddr x y z,t,ps,af,g⟩ fr H k:=rfl
@[go_sem ↓] theorem rQ {x y z} :ZL P ⟨d,.index x y z,t,ps,af,g⟩ fr H k=Zz P ⟨d,.index x y z,t,ps,af,g⟩ fr H k:=rfl
@[go_sem ↓] theorem gX {x y} :ZL P ⟨d,.extract x y,t,ps,af,g⟩ fr H k=Zz P ⟨d,.extract x y,t,ps,af,g⟩ fr H k:=rfl
@[go_sem ↓] theorem xA {x y z} :ZL P ⟨d,.call ⟨.value x,y,z⟩,t,ps,af,g⟩ fr H k=Zz P ⟨d,.call ⟨.value x,y,z⟩,t,ps,af,g⟩ fr H k:=rfl
@[go_sem ↓] theorem Zab {y z} :ZL P ⟨d,.call ⟨.builtin .len,y,z⟩,t,ps,af,g⟩ fr H k=Zz P ⟨d,.call ⟨.builtin .len,y,z⟩,t,ps,af,g⟩ fr H k:=rfl
@[go_sem ↓] theorem Zad {y z} :ZL P ⟨d,.call ⟨.builtin .max,y,z⟩,t,ps,af,g⟩ fr H k=Zz P ⟨d,.call ⟨.builtin .max,y,z⟩,t,ps,af,g⟩ fr H k:=rfl
@[go_sem ↓] theorem Zae {y z} :ZL P ⟨d,.call ⟨.builtin .min,y,z⟩,t,ps,af,g⟩ fr H k=Zz P ⟨d,.call ⟨.builtin .min,y,z⟩,t,ps,af,g⟩ fr H k:=rfl
def SB (P:Program) (H:List Obj) (t u:TypeId) (x y:V) (k:V->List Obj->Prop):Prop:= ∃S zs,W9 P H t u x y=some (.sl H.length 0 zs.length zs.length,H++ [.elems S zs])/\k (.p (.list false zs)) H
@[go_sem ↓] theorem qC {x y u u2} :ZL P ⟨d,.call ⟨.builtin .append,#[x,y],#[u,u2]⟩,t,ps,af,g⟩ fr H k=SB P H u u2 (ev fr x) (ev fr y) (Zw k ⟨⟩):=rfl
def T4 (F:Option (Nat×Nat)) (xs:List PV) (ys:Option (List PV)):Option PV:=match F,ys with
 | some (S,by'),some ys=>if K5 S ys=true/\K5 S xs=true/\(xs= []\/0<ys.length)/\(xs.length+ys.length)*by'<=140737488355328/\xs.length+ys.length<=140737488355328 then some (.list false (xs++ys)) else none
 | _,_=>none
@[go_sem] theorem Zfc {α:Type} {S b} {f:α->PV} {l:List α} {x:PV} (hb:(l.length+1)*b<=140737488355328) (hb2:l.length+1<=140737488355328):T4 (some (S,b)) (l.map f) (some [x])=if K5 S [x]=true/\K5 S (l.map f)=true then some (.list false (l.map f++ [x])) else none:=by
 grind [T4]
theorem PO {u u2:TypeId} {F} {xs:List PV} {y:V} (hF:QG P u=some F) {tt} :SB P H u u2 (.p (.list true xs)) y (Zw k tt)=BN ((T4 (some F) xs (YM (P.underlying u2) H y)).map .p) (Zw (fun v=>k v H) ⟨⟩):=by
 obtain ⟨S,by'⟩:=F;obtain ⟨e,z,h1,h2,h3,h4,h6⟩:=FD hF;have e1:YM (P.underlying u2) H y=Hj P H u2 y:=Zm rfl rfl;rw [e1];unfold SB Zw
 cases h5:Hj P H u2 y with
 | none =>
  grind [W9,T4,BN]
 | some ys =>
  rw [IZ h1 h2 h3 h4 h5 h6];simp only [T4]
  by_cases hc:K5 S ys=true
  ·rw [if_pos hc];simp only [hc,true_and]
   by_cases hd:K5 S xs=true/\(xs= []\/0<ys.length)/\(xs.length+ys.length)*by'<=140737488355328/\xs.length+ys.length<=140737488355328
   ·rw [if_pos hd,if_pos hd];simp only [AN,BN,eq_iff_iff]
    constructor
    ·simp_all
    ·intro hk;exact ⟨S,xs++ys,Zb,hk⟩
   simp_all [if_neg,BN]
  ·simp [hc,BN]
theorem Le {o fr' H'} (h:fr=fr') (h2:H=H'):ZL P o fr H k=ZL P o fr' H' k:=by rw [h,h2]
end
attribute [congr] Le
attribute [go_sem] List.filter_cons List.filter_nil
end Go.AM
namespace Go.AM
open Go.RowKit
mutual
/-- no memory in it -/
def PY : PV->Bool
 | .list _ xs=>xs.isEmpty
 | .agg cs=>Nu cs
 | _=>true
def Nu : List PV->Bool
 | []=>true
 | x::l=>PY x&&Nu l
end
theorem Az : ∀ {l:List PV},Nu l=true-> ∀(j:Nat) (x:PV),l[j]? =some x->PY x=true
 | [],_,j,x,h=>by simp at h
 | y::l,hh,j,x,h=>by
  simp [Nu] at hh
  cases j with
  | zero=>simp at h;subst h;exact hh.1
  | succ j=>exact Az hh.2 j x (by simpa using h)
theorem RP.anywhere {X X':Nat->Prop} {w w' x v} (h:RP X w x v) (hf:PY x=true):RP X' w' x v:=by
 induction h with
 | int k n=>exact .int k n
 | bool b=>exact .bool b
 | str s=>exact .str s
 | nilp=>exact .nilp
 | nili=>exact .nili
 | nilf=>exact .nilf
 | nilm=>exact .nilm
 | fn f=>exact .fn f
 | nils cl=>exact .nils cl
 | emp cl a cap hc hm ha=>exact .emp cl a cap hc hm ha
 | list cl xs b off cap S u hX hb hc hm hcl hS hu hr ih =>
  have:xs= []:=by grind [PY]
  subst this;exact .emp cl _ cap (fun h=>by grind) hm (fun _ x hx=>by grind)
 | agg cs a hs _ ih=>exact .agg cs a hs fun j c hj=>ih j c hj (Az (by grind [PY]) j c hj)
def vw (H:List Obj):V->Option V
 | .p x=>some (.p x)
 | .fn f [] []=>some (.fn f [] [])
 | .sl o off len tot=>match oat H o with
  | .elems _ xs=>if xs.length=tot/\off+len<=tot then some (.p (.list false ((xs.take (off+len)).drop off))) else none
  | _=>none
 | _=>none
def vws (H:List Obj):List V->Option (List V)
 | []=>some []
 | x::l=>match vw H x,vws H l with | some y,some ys=>some (y::ys) | _,_=>none
abbrev Bf : Nat->Prop:=fun _=>False
theorem C1 {b:Nat} : ¬Own Bf [] b:=by simp [Own]
theorem ZkR {F H ι w x v y} (hr:Rel F H ι w) (h:RV F H ι w x v) (hy:vw H x=some y):RV Bf [] [] w y v:=by
 unfold vw at hy
 split at hy
 ·simp at hy;subst hy
  cases h with | p _ _ h=>exact .p _ _ (h.weaker fun b hb=>absurd hb C1)
 ·simp at hy;subst hy;generalize v=u at h
  cases h with
  | fn _ _ _ a e hs ht _ _=>exact .fn _ [] [] a e hs ht (fun j c hj=>by simp at hj) (fun j c hj=>by simp at hj)
 ·rename_i o off len tot
  split at hy
  ·rename_i S xs ho
   split at hy
   ·rename_i hc;simp at hy;subst hy;exact .p _ _ (BR _ (fun b _ hb=>C1 hb) (fun b _ hs=>⟨C1,hs,rfl⟩) hr (XB ho Zb) hc.1 hc.2 h)
   ·cases hy
  ·cases hy
 ·cases hy
theorem TP {H} : ∀ {l l':List V},vws H l=some l'->l'.length=l.length/\ ∀(j:Nat) (y:V),l'[j]? =some y-> ∃x,l[j]? =some x/\vw H x=some y
 | [],l',h=>by simp [vws] at h;grind
 | x::l,l',h=>by
  simp only [vws] at h
  split at h
  ·rename_i y ys h1 h2;simp at h;subst h;obtain ⟨e,hg⟩:=TP h2;refine ⟨by simp [e],fun j z hj=> ?_⟩
   cases j with
   | zero=>simp at hj;subst hj;exact ⟨x,Zb,h1⟩
   | succ j=>obtain ⟨q,q1,q2⟩:=hg j z (by simpa using hj);exact ⟨q,by simpa using q1,q2⟩
  ·cases h
theorem Good.lift {F H ι w H1 ι1 w'} (hr:Rel F H ι w) (g:Good Bf [] [] w H1 ι1 w') (h1: ∀(o:Nat) (ob:Obj),H1[o]? =some ob-> ∃S xs,ob= .elems S xs/\Nu xs=true):Good (Own F ι) [] [] w H1 ι1 w':=by
 have hnew: ∀b,some b∈ι1-> ¬b<w.heap.size:=fun b hb hlt=>g.own b hlt Zb hb
 have hold: ∀b,Own F ι b->b<w.heap.size:=fun b hb=>by
  rcases hb with hb | hb
  ·exact hr.fin b hb
  ·obtain ⟨i,hi⟩:=Xk.1 hb;exact (hr.avo i b hi).2
 refine Good.up hr.env.fresh ⟨⟨g.rel.len,fun b hb=>by have:=hold b hb;have:=g.size;omega,g.rel.inj,fun i b hi=> ?_,fun o cs ho=> ?_,fun o S xs ho=> ?_,fun o es ho=>(by grind),fun o T E r bs ho=>(by grind)⟩,g.os,g.tape,g.output,g.shape,g.size,g.keep,g.own,g.hx⟩
 ·refine ⟨fun hb=>hnew b (XF hi) (hold b hb),(g.rel.avo i b hi).2⟩
 ·grind
 ·rcases g.rel.elm o S xs ho with e | ⟨b,c,t,cap,e1,e2,e3,e4,e5,e6,e7⟩
  ·exact .inl e
  ·refine .inr ⟨b,c,t,cap,e1,e2,e3,e4,e5,e6,fun i x j y hi hj=> ?_⟩;obtain ⟨S',xs',e,hf⟩:=h1 o _ ho;simp at e;obtain ⟨rfl,rfl⟩:=e;have hx:=Az hf i x hi;refine (e7 i x j y hi hj).anywhere ?_
   cases x<;>simp only [PV.cells] at hj
   case agg cs=>grind [Az,PY]
   all_goals (cases j with
    | zero=>simp at hj;subst hj;exact hx
    | succ j=>simp at hj)
theorem GJ {w:World} (he:Env Bf [] w):Rel Bf [] [] w:=⟨⟨rfl,fun b hb=>hb.elim,fun i j b hi=>by simp at hi,fun i b hi=>by simp at hi,fun o cs ho=>by simp at ho,fun o S xs ho=>by simp at ho,fun o es ho=>by simp at ho,fun o T E r bs ho=>by simp at ho⟩,he⟩
theorem ACalls.view {P g args args'} {y:PV} {H:List Obj} {K:V->List Obj->Prop} (h:ACalls P g args' [] fun x H'=>x= .p y/\H'= []) (hv:vws H args=some args') (hy:PY y=true) (k:K (.p y) H):ACalls P g args H K:=by
 refine ⟨h.1,fun F ι w vs hr hvs=> ?_⟩;obtain ⟨e,hg⟩:=TP hv;refine (h.2 Bf [] w vs (GJ hr.env.noth) ⟨by rw [hvs.1,e],fun j c hj=> ?_⟩).mono ?_
 ·obtain ⟨x,h1,h2⟩:=hg j c hj;exact ZkR hr (hvs.2 j x h1) h2
 ·rintro e w' ⟨x,H',ι',v,rfl,⟨rfl,rfl⟩,gd,rv⟩;have g2:=(gd.lift hr (fun o ob ho=>by simp at ho)).behind hr;have hι:ι'= []:=YE gd.rel.len;subst hι;simp only [Zk,Yp] at g2
  cases rv with | p _ _ rp =>
  exact ⟨_,H,ι,v,rfl,k,g2,.p _ _ (rp.anywhere hy)⟩
def rd1 (H:List Obj):V->Option PV
 | .p x=>some x
 | .sl o off len tot=>match oat H o with
  | .elems _ xs=>if xs.length=tot/\off+len<=tot then some (.list false ((xs.take (off+len)).drop off)) else none
  | _=>none
 | _=>none
def rds (H:List Obj):List V->Option (List PV)
 | []=>some []
 | x::l=>match rd1 H x,rds H l with | some y,some ys=>some (y::ys) | _,_=>none
def rd (H:List Obj):V->Option PV
 | .agg cs=>(rds H cs).map .agg
 | x=>rd1 H x
@[go_sem] theorem Zl4 {o off len tot r} :Q4 (.sl o off len tot::r)=none:=Zm rfl rfl
attribute [go_sem] Option.map_none
end Go.AM
namespace Go.Proofs.YtjkkdmeebhjaiaaGreatDoor.K
open Go Go.AM
def Ed (be:List (Int×Int)) (a b:Nat):Prop:= ∃p∈be,p.1=(a:Int)/\p.2=(b:Int)
inductive Ch (be:List (Int×Int)):Nat->Nat->Prop where
 | one {a b} (h:Ed be a b):Ch be a b
 | more {a b c} (h:Ch be a b) (k:Ed be b c):Ch be a c
def Val (n:Nat) (be:List (Int×Int)):Prop:= ∀p∈be,0<=p.1/\p.1<n/\0<=p.2/\p.2<n
def EF (out:List Nat) (p:Int×Int):List Nat:=out.set p.2.toNat (nth out p.2.toNat|||nth out p.1.toNat|||pw p.1.toNat)
def Fh (out:List Nat) (be:List (Int×Int)):List Nat:=be.foldl EF out
structure Snd (n:Nat) (be:List (Int×Int)) (out:List Nat):Prop where
 len:out.length=n
 lt: ∀b,b<n->nth out b<pw n
 snd: ∀a b,b<n->(nth out b).testBit a=true->Ch be a b
structure Clo (n:Nat) (be:List (Int×Int)) (out:List Nat):Prop extends Snd n be out where
 cmp: ∀a b,Ch be a b->(nth out b).testBit a=true
theorem Fe (l:List Nat) (i j v:Nat) (h:j<l.length):nth (l.set i v) j=if i=j then v else nth l j:=by
 grind [nth]
theorem Snd.zero (n be):Snd n be (List.replicate n 0):=by
 refine ⟨Zb,fun b hb=> ?_,fun a b hb h=> ?_⟩
 ·grind [Zi,GE]
 grind [Zi]
theorem Kw (a b:Nat):(pw a).testBit b=decide (a=b):=by grind [pw]
theorem Snd.step {n be out} (hv:Val n be) (hs:Snd n be out) {p} (hp:p∈be):Snd n be (EF out p):=by
 obtain ⟨h1,h2,h3,h4⟩:=hv p hp;refine ⟨by simp [EF,hs.len],fun b hb=> ?_,fun a b hb h=> ?_⟩
 ·rw [EF,Fe _ _ _ _ (by rw [hs.len];exact hb)]
  split
  ·have e1:=hs.lt p.2.toNat Za;have e2:=hs.lt p.1.toNat Za
   have e3:pw p.1.toNat<pw n:=by
    have:=Fj p.1.toNat;have h5:pw (p.1.toNat+1)<=pw n:=KD Za;omega
   exact Ji (Ji e1 e2) e3
  ·exact hs.lt b hb
 ·rw [EF,Fe _ _ _ _ (by rw [hs.len];exact hb)] at h
  split at h
  ·rename_i hb2;have hE:Ed be p.1.toNat b:=⟨p,hp,Za,Za⟩;simp only [AP,Vr] at h;rcases h with (h | h) | h
   ·exact hs.snd a b hb (by grind)
   ·exact (hs.snd a _ Za h).more hE
   ·rw [Kw] at h;simp at h;subst h;exact .one hE
  ·exact hs.snd a b hb h
theorem Snd.rnd {n be out} (hv:Val n be) (hs:Snd n be out): ∀(l:List (Int×Int)),(∀p∈l,p∈be)->Snd n be (Fh out l):=by
 intro l
 induction l generalizing out with
 | nil=>intro _;exact hs
 | cons p l ih=>intro h;exact ih (hs.step hv (h p Zb)) fun q hq=>h q (by simp [hq])
theorem yD (x y:Nat):x<=x|||y:=Nat.left_le_or
def tot (l:List Nat):Nat:=l.foldr (· + ·) 0
theorem TK : ∀(l:List Nat) (i v:Nat),i<l.length->tot (l.set i v)+nth l i=tot l+v
 | [],i,v,h=>by simp at h
 | x::l,0,v,h=>by simp [tot,nth];omega
 | x::l,i+1,v,h=>by
  have:=TK l i v (by simpa using h);simp only [ZQ,tot,List.foldr_cons,nth,List.getD_cons_succ] at this ⊢;omega
theorem pO : ∀(l:List Nat) (m:Nat),(∀i,i<l.length->nth l i<m)->tot l<=l.length*m
 | [],m,h=>by simp [tot]
 | x::l,m,h=>by
  have h0:=h 0 Zb
  have:=pO l m fun i hi=>by have:=h (i+1) (by grind);grind [nth]
  grind [tot,XO,nth]
theorem Sq (out:List Nat) (p:Int×Int) (h:p.2.toNat<out.length):tot out<=tot (EF out p)/\(tot (EF out p)=tot out->EF out p=out):=by
 have e:=TK out p.2.toNat (nth out p.2.toNat|||nth out p.1.toNat|||pw p.1.toNat) h;have h1:nth out p.2.toNat<=nth out p.2.toNat|||nth out p.1.toNat|||pw p.1.toNat:=Kh (yD _ _) (yD _ _);refine ⟨by rw [EF];omega,fun he=> ?_⟩;rw [EF] at he ⊢
 have:nth out p.2.toNat|||nth out p.1.toNat|||pw p.1.toNat=nth out p.2.toNat:=Za
 simp_all [Zi]
theorem Rk (out l m):Fh out (l++m)=Fh (Fh out l) m:=by grind [Fh]
theorem C2 {n be} (hv:Val n be): ∀(l:List (Int×Int)) (out:List Nat),(∀p∈l,p∈be)->Snd n be out->tot out<=tot (Fh out l)/\(tot (Fh out l)=tot out->Fh out l=out/\ ∀p∈l,EF out p=out)
 | [],out,_,_=>⟨Zy _,fun _=>⟨rfl,fun p hp=>by simp at hp⟩⟩
 | p::l,out,hl,hs=>by
  obtain ⟨h1,h2,h3,h4⟩:=hv p (hl p Zb);have c:=Sq out p (by rw [hs.len];omega);have r:=C2 hv l (EF out p) (fun q hq=>hl q (by simp [hq])) (hs.step hv (hl p Zb));refine ⟨Kh c.1 r.1,fun e=> ?_⟩;have e:tot (Fh (EF out p) l)=tot out:=e
  have e1:tot (EF out p)=tot out:=Za
  have e2:=c.2 e1
  have e3:tot (Fh (EF out p) l)=tot (EF out p):=Za
  obtain ⟨e4,e5⟩:=r.2 e3;rw [e2] at e4 e5;refine ⟨by grind [Fh],fun q hq=> ?_⟩
  grind
theorem Snd.clo {n be out} (hv:Val n be) (hs:Snd n be out) (h:tot (Fh out be)=tot out):Clo n be out:=by
 have hc:=((C2 hv be out (fun _ h=>h) hs).2 h).2
 have key: ∀p∈be,∀a,(a=p.1.toNat\/(nth out p.1.toNat).testBit a=true)->(nth out p.2.toNat).testBit a=true:=fun p hp a ha=>by
  obtain ⟨h1,h2,h3,h4⟩:=hv p hp;have e:=hc p hp
  have e2:nth (EF out p) p.2.toNat=nth out p.2.toNat:=by rw [e]
  rw [EF,Fe _ _ _ _ (by rw [hs.len];omega)] at e2;simp only [if_true] at e2;rw [<- e2];simp only [AP,Vr,Kw,Zq]
  grind
 refine ⟨hs,fun a b hab=> ?_⟩
 induction hab with
 | one h =>
  obtain ⟨p,hp,e1,e2⟩:=h;have:=key p hp p.1.toNat (.inl rfl)
  grind
 | more _ h ih =>
  obtain ⟨p,hp,e1,e2⟩:=h;have:=key p hp _ (.inr (by rw [e1];exact ih))
  grind
theorem Clo.uniq {n be out out'} (hv:Val n be) (h:Clo n be out) (h':Clo n be out'):out=out':=by
 apply Uc (by rw [h.len,h'.len]);intro b h1 h2;rw [<- Zi h1,<- Zi h2];apply CI;intro a;rw [Wz];rw [h.len] at h1;exact ⟨fun e=>h'.cmp a b (h.snd a b h1 e),fun e=>h.cmp a b (h'.snd a b h1 e)⟩
theorem Snd.bound {n be out} (hs:Snd n be out):tot out<=n*pw n:=by
 have:=pO out (pw n) fun i hi=>hs.lt i (by rw [<- hs.len];exact hi);rwa [hs.len] at this
theorem iY {n be} (hv:Val n be): ∀(k:Nat) (out:List Nat),Snd n be out->n*pw n-tot out<k-> ∃out',Clo n be out'
 | 0,out,_,h=>Za
 | k+1,out,hs,h=>by
  by_cases he:tot (Fh out be)=tot out
  ·exact ⟨out,hs.clo hv he⟩
  ·have hp:=hs.rnd hv be fun _ h=>h;have:=hp.bound;have:=(C2 hv be out (fun _ h=>h) hs).1;exact iY hv k (Fh out be) hp Za
noncomputable def Ky (n:Nat) (be:List (Int×Int)):List Nat:=open Classical in if h: ∃out,Clo n be out then h.choose else []
theorem FP {n be} (hv:Val n be):Clo n be (Ky n be):=by
 have h:=iY hv _ (List.replicate n 0) (Snd.zero n be) (Nat.lt_succ_self _);rw [Ky,dif_pos h]
 grind
theorem iX {n be out} (hv:Val n be) (h:Clo n be out):Ky n be=out:=(FP hv).uniq hv h
theorem Qc {n be} (hv:Val n be) (a b:Nat) (hb:b<n):(nth (Ky n be) b).testBit a=true↔Ch be a b :=
 ⟨(FP hv).snd a b hb,(FP hv).cmp a b⟩
end Go.Proofs.YtjkkdmeebhjaiaaGreatDoor.K
