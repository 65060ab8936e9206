/- Declarations that the closing texts need, part 12: joined by tools/slim.py. -/
import Derived.Test.YtmbelkfkhclnkaaGreatDoorYM11
import Derived.Test.YtmbelkfkhclnkaaGreatDoorRows
set_option linter.unusedVariables false
set_option linter.unusedSimpArgs false
namespace Go.Proofs.YtmbelkfkhclnkaaGreatDoor.K
open Go Go.AM Go.Proofs
mutual
theorem BR {H:Type} :(d:DataW H)->Q7 d<=Rows.uptoBulk d
 | .lit l=>by cases l<;>simp [Q7,Rows.uptoBulk]
 | .nil=>by simp [Q7,Rows.uptoBulk]
 | .ptr d=>by have:=BR d;simp only [Q7,Rows.uptoBulk];omega
 | .slice es sp=>by have:=VC es;have:=VC sp;simp only [Q7,Rows.uptoBulk];omega
 | .agg ps=>by have:=VC ps;simp only [Q7,Rows.uptoBulk];omega
 | .iface _ d=>by have:=BR d;simp only [Q7,Rows.uptoBulk];omega
 | .map es=>by simp only [Q7,Rows.uptoBulk];omega
 | .held h=>by simp [Q7,Rows.uptoBulk]
theorem VC {H:Type} :(l:List (DataW H))->WJ l<=Rows.uptoBulkAll l
 | []=>by simp [WJ,Rows.uptoBulkAll]
 | d::r=>by have:=BR d;have:=VC r;simp only [WJ,Rows.uptoBulkAll];omega
end
theorem CH {H:Type} {l:List (DataW H)} (h:Rows.uptoSmall H l=true):WJ l<=1048576:=by
 have h1:=VC l;have h2:Rows.uptoBulkAll l<=1048576:=of_decide_eq_true h;omega
abbrev hU (n:Int):Prop:= -9223372036854775808<=n/\n<=9223372036854775807
def eI (n:Int):PV:= .int .i64 n
def eB (b:Bool):PV:= .bool b
def eS (s:List UInt8):PV:= .str s
def eP (p:Int×Int):PV:= .agg [.int .i64 p.1,.int .i64 p.2]
@[go_sem] theorem bB (n:Int):eI n= .int .i64 n:=Eq.trans rfl rfl
@[go_sem] theorem qR (b:Bool):eB b= .bool b:=Eq.trans rfl rfl
@[go_sem] theorem qT (s:List UInt8):eS s= .str s:=Eq.trans rfl rfl
@[go_sem] theorem qS (p:Int×Int):eP p= .agg [.int .i64 p.1,.int .i64 p.2]:=Eq.trans rfl rfl
@[go_sem] theorem iE (l:List Int):UO 1 (l.map eI)=true:=WE (f:=eI) (S:=1) (fun _=>rfl) l
@[go_sem] theorem nF (l:List Int):QK 1 (l.map eI)=true:=KC fun _=>rfl
@[go_sem] theorem iD (l:List Bool):UO 1 (l.map eB)=true:=WE (f:=eB) (S:=1) (fun _=>rfl) l
structure Pt where
 t:Int
 a:Int
 deriving Inhabited
def Er (x:Pt):PV:= .agg [.int .i64 x.t,.int .i64 x.a]
@[go_sem] theorem lU (x:Pt):Er x= .agg [.int .i64 x.t,.int .i64 x.a]:=Eq.trans rfl rfl
structure Arc where
 src:Int
 dst:Int
 prof:Int
 miles:Int
 travel_c:Bool
 travel:List (Pt)
 slow_c:Bool
 slow:List (Pt)
 deriving Inhabited
def VD (x:Arc):PV:= .agg [.int .i64 x.src,.int .i64 x.dst,.int .i64 x.prof,.int .i64 x.miles,.list x.travel_c (x.travel.map Er),.list x.slow_c (x.slow.map Er)]
@[go_sem] theorem iM (x:Arc):VD x= .agg [.int .i64 x.src,.int .i64 x.dst,.int .i64 x.prof,.int .i64 x.miles,.list x.travel_c (x.travel.map Er),.list x.slow_c (x.slow.map Er)]:=Eq.trans rfl rfl
structure Net where
 places_c:Bool
 places:List (List UInt8)
 arcs_c:Bool
 arcs:List (Arc)
 deriving Inhabited
def IT (x:Net):PV:= .agg [.list x.places_c (x.places.map eS),.list x.arcs_c (x.arcs.map VD)]
@[go_sem] theorem iO (x:Net):IT x= .agg [.list x.places_c (x.places.map eS),.list x.arcs_c (x.arcs.map VD)]:=Eq.trans rfl rfl
structure Typ where
 name:List UInt8
 count:Int
 src:Int
 dst:Int
 cap_c:Bool
 cap:List (Int)
 skills:Int
 prof:Int
 opn:Int
 cls:Int
 drive:Int
 rest:Int
 fixed:Int
 perMile:Int
 perTick:Int
 deriving Inhabited
def Je (x:Typ):PV:= .agg [.str x.name,.int .i64 x.count,.int .i64 x.src,.int .i64 x.dst,.list x.cap_c (x.cap.map eI),.int .i64 x.skills,.int .i64 x.prof,.int .i64 x.opn,.int .i64 x.cls,.int .i64 x.drive,.int .i64 x.rest,.int .i64 x.fixed,.int .i64 x.perMile,.int .i64 x.perTick]
@[go_sem] theorem iZ (x:Typ):Je x= .agg [.str x.name,.int .i64 x.count,.int .i64 x.src,.int .i64 x.dst,.list x.cap_c (x.cap.map eI),.int .i64 x.skills,.int .i64 x.prof,.int .i64 x.opn,.int .i64 x.cls,.int .i64 x.drive,.int .i64 x.rest,.int .i64 x.fixed,.int .i64 x.perMile,.int .i64 x.perTick]:=Eq.trans rfl rfl
structure Stp where
 place:Int
 opn:Int
 cls:Int
 serv:Int
 deriving Inhabited
def BT (x:Stp):PV:= .agg [.int .i64 x.place,.int .i64 x.opn,.int .i64 x.cls,.int .i64 x.serv]
@[go_sem] theorem iV (x:Stp):BT x= .agg [.int .i64 x.place,.int .i64 x.opn,.int .i64 x.cls,.int .i64 x.serv]:=Eq.trans rfl rfl
structure Ord where
 name:List UInt8
 load_c:Bool
 load:List (Int)
 pick:Stp
 drp:Stp
 skills:Int
 penalty:Int
 split:Int
 last:Int
 now:Int
 off:Bool
 deriving Inhabited
def VE (x:Ord):PV:= .agg [.str x.name,.list x.load_c (x.load.map eI),.int .i64 x.pick.place,.int .i64 x.pick.opn,.int .i64 x.pick.cls,.int .i64 x.pick.serv,.int .i64 x.drp.place,.int .i64 x.drp.opn,.int .i64 x.drp.cls,.int .i64 x.drp.serv,.int .i64 x.skills,.int .i64 x.penalty,.int .i64 x.split,.int .i64 x.last,.int .i64 x.now,.bool x.off]
@[go_sem] theorem iP (x:Ord):VE x= .agg [.str x.name,.list x.load_c (x.load.map eI),.int .i64 x.pick.place,.int .i64 x.pick.opn,.int .i64 x.pick.cls,.int .i64 x.pick.serv,.int .i64 x.drp.place,.int .i64 x.drp.opn,.int .i64 x.drp.cls,.int .i64 x.drp.serv,.int .i64 x.skills,.int .i64 x.penalty,.int .i64 x.split,.int .i64 x.last,.int .i64 x.now,.bool x.off]:=Eq.trans rfl rfl
structure Inst where
 net:Net
 types_c:Bool
 types:List (Typ)
 orders_c:Bool
 orders:List (Ord)
 apart_c:Bool
 apart:List (Int×Int)
 before_c:Bool
 before:List (Int×Int)
 deriving Inhabited
def XU (x:Inst):PV:= .agg [.list x.net.places_c (x.net.places.map eS),.list x.net.arcs_c (x.net.arcs.map VD),.list x.types_c (x.types.map Je),.list x.orders_c (x.orders.map VE),.list x.apart_c (x.apart.map eP),.list x.before_c (x.before.map eP)]
@[go_sem] theorem bC (x:Inst):XU x= .agg [.list x.net.places_c (x.net.places.map eS),.list x.net.arcs_c (x.net.arcs.map VD),.list x.types_c (x.types.map Je),.list x.orders_c (x.orders.map VE),.list x.apart_c (x.apart.map eP),.list x.before_c (x.before.map eP)]:=Eq.trans rfl rfl
structure Vis where
 order:Int
 drp:Bool
 deriving Inhabited
def Z9 (x:Vis):PV:= .agg [.int .i64 x.order,.bool x.drp]
@[go_sem] theorem IV (x:Vis):Z9 x= .agg [.int .i64 x.order,.bool x.drp]:=Eq.trans rfl rfl
@[go_sem] theorem RM (l:List Vis):UO 2 (l.map Z9)=true:=WE (f:=Z9) (S:=2) (fun _=>rfl) l
structure Rte where
 typ:Int
 start:Int
 rests_c:Bool
 rests:List (Bool)
 visits_c:Bool
 visits:List (Vis)
 deriving Inhabited
def Vp (x:Rte):PV:= .agg [.int .i64 x.typ,.int .i64 x.start,.list x.rests_c (x.rests.map eB),.list x.visits_c (x.visits.map Z9)]
@[go_sem] theorem iS (x:Rte):Vp x= .agg [.int .i64 x.typ,.int .i64 x.start,.list x.rests_c (x.rests.map eB),.list x.visits_c (x.visits.map Z9)]:=Eq.trans rfl rfl
structure Tim where
 arr:Int
 beg:Int
 dep:Int
 rest:Bool
 deriving Inhabited
def eTim (x:Tim):PV:= .agg [.int .i64 x.arr,.int .i64 x.beg,.int .i64 x.dep,.bool x.rest]
@[go_sem] theorem iW (x:Tim):eTim x= .agg [.int .i64 x.arr,.int .i64 x.beg,.int .i64 x.dep,.bool x.rest]:=Eq.trans rfl rfl
@[go_sem] theorem dT (l:List Tim):QK 4 (l.map eTim)=true:=KC fun _=>rfl
structure She where
 rest:Bool
 dep:Int
 times_c:Bool
 times:List (Tim)
 fin:Int
 miles:Int
 deriving Inhabited
def BS (x:She):PV:= .agg [.bool x.rest,.int .i64 x.dep,.list x.times_c (x.times.map eTim),.int .i64 x.fin,.int .i64 x.miles]
@[go_sem] theorem iU (x:She):BS x= .agg [.bool x.rest,.int .i64 x.dep,.list x.times_c (x.times.map eTim),.int .i64 x.fin,.int .i64 x.miles]:=Eq.trans rfl rfl
structure Sco where
 cost:Int
 moved:Int
 other:Int
 work:Int
 deriving Inhabited
def IU (x:Sco):PV:= .agg [.int .i64 x.cost,.int .i64 x.moved,.int .i64 x.other,.int .i64 x.work]
@[go_sem] theorem iT (x:Sco):IU x= .agg [.int .i64 x.cost,.int .i64 x.moved,.int .i64 x.other,.int .i64 x.work]:=Eq.trans rfl rfl
structure Pln where
 routes_c:Bool
 routes:List (Rte)
 unserved_c:Bool
 unserved:List (Int)
 deriving Inhabited
def Ep (x:Pln):PV:= .agg [.list x.routes_c (x.routes.map Vp),.list x.unserved_c (x.unserved.map eI)]
@[go_sem] theorem iQ (x:Pln):Ep x= .agg [.list x.routes_c (x.routes.map Vp),.list x.unserved_c (x.unserved.map eI)]:=Eq.trans rfl rfl
theorem own : ownKnob Tryz.prog.godebug=none:=Zh
theorem La : laidOutB Tryz.prog=true:=Zh
abbrev Flt := Int×List UInt8
def Q6 (n:Nat):List UInt8:=if h:n<10 then [UInt8.ofNat (48+n)] else Q6 (n / 10)++ [UInt8.ofNat (48+n%10)]
termination_by n
decreasing_by omega
theorem BQ : ∀(d n:Nat),n<10^(d+1)->(Q6 n).length<=d+1:=by
 intro d
 induction d with
 | zero=>simp_all [Q6]
 | succ d ih =>
  grind [Q6]
def Ve (n:Int):List UInt8:=if n<0 then 45::Q6 n.natAbs else Q6 n.natAbs
theorem F1 (n:Int) (h:hU n):(Ve n).length<=20:=by
 have h1:n.natAbs<10^(18+1):=Za
 have:=BQ 18 n.natAbs h1
 grind [Ve]
theorem ZL {p:Nat->Prop} {k:Nat} :(∀j,j<k+1->p j)↔((∀j,j<k->p j)/\p k) :=
 ⟨fun h=>⟨fun j hj=>h j Za,h k Za⟩,fun h j hj=>by
  grind⟩
def W7 (c:UInt8):Bool:=decide (48<=c.toNat/\c.toNat<=57)
def Gz (c:UInt8):Bool:=decide (97<=c.toNat/\c.toNat<=122)||decide (65<=c.toNat/\c.toNat<=90)||decide (c.toNat=95)
def nameOk (s:List UInt8):Bool:=decide (1<=s.length)&&decide (s.length<=16)&& !W7 (nth s 0)&&s.all fun c=>Gz c||W7 c
def rng (n lo hi:Int):Bool:=decide (lo<=n/\n<=hi)
def Rb (n:Int):Bool:=rng n 0 4096
def PJ (l:List Pt) (i:Nat):Prop:=(0<=(nth l i).t/\(nth l i).t<=4096/\(nth l i).t<=(nth l i).a/\(nth l i).a<=(nth l i).t+4096)/\(0<i->(nth l (i-1)).t<(nth l i).t/\(nth l (i-1)).a<=(nth l i).a)
def YB (l:List Pt):Prop:=(1<=l.length/\l.length<=16)/\ ∀i,i<l.length->PJ l i
def KM (l:List Pt) (i:Nat):Prop:=Rb (nth l i).t=true/\Rb (nth l i).a=true/\(0<i->(nth l (i-1)).t<(nth l i).t)
def CZ (n:Net) (i:Nat):Prop :=
 ((((((0<=(nth n.arcs i).src/\(nth n.arcs i).src<n.places.length/\0<=(nth n.arcs i).dst/\(nth n.arcs i).dst<n.places.length) /\
 (0<=(nth n.arcs i).prof/\(nth n.arcs i).prof<=7/\0<=(nth n.arcs i).miles/\(nth n.arcs i).miles<=10000/\(nth n.arcs i).src≠(nth n.arcs i).dst)) /\
 (∀k,k<i-> ¬((nth n.arcs i).src=(nth n.arcs k).src/\(nth n.arcs i).dst=(nth n.arcs k).dst/\(nth n.arcs i).prof=(nth n.arcs k).prof))) /\
 YB (nth n.arcs i).travel)/\(nth n.arcs i).slow.length<=16)/\ ∀k,k<(nth n.arcs i).slow.length->KM (nth n.arcs i).slow k)
def nH (n:Net) (i:Nat):Prop:=nameOk (nth n.places i)=true/\ ∀k,k<i->nth n.places k≠nth n.places i
def Hk (n:Net):Prop:=n.places.length<=24/\ ∀i,i<n.places.length->nH n i
def netOk (n:Net):Prop:=(Hk n/\n.arcs.length<=1024)/\ ∀i,i<n.arcs.length->CZ n i
set_option maxRecDepth 8000
set_option maxHeartbeats 4000000
theorem IR (c:UInt8):PC 120 [.p (.int .u8 (c.toNat:Nat))] (.bool (W7 c)):=by
 refine Zd Tryz.func120 rfl N8 ?_;simp (disch:=omega) only [Tryz.f120,go_sem,seval];refine gT ?_ ?_<;>intro h<;>simp (disch:=omega) only [Sh.out h,go_sem,seval,↓reduceIte]
 all_goals (simp [W7];first | done | omega | grind)
set_option maxHeartbeats 8000000
def Pv (n:Net):List AM.Obj:= [.cells [.p (.list n.places_c (n.places.map eS)),.p (.list n.arcs_c (n.arcs.map VD))]]
set_option maxHeartbeats 16000000
def D6 (a:Arc):AM.Obj:= .cells [.p (.int .i64 a.src),.p (.int .i64 a.dst),.p (.int .i64 a.prof),.p (.int .i64 a.miles),.p (.list a.travel_c (a.travel.map Er)),.p (.list a.slow_c (a.slow.map Er))]
theorem Xj {α:Type} [Inhabited α] {l:List α} {i:Nat} (h:i<l.length):nth l i∈l:=by grind [Zg]
end Go.Proofs.YtmbelkfkhclnkaaGreatDoor.K
namespace Go.Proofs.YtmbelkfkhclnkaaGreatDoor.K
section
variable {L : Type} (fin : L -> Int) (beats : L -> L -> Bool) (nxt : Nat -> L -> Bool -> Option L) (choices : Nat -> List Bool)
def Yp : Option L->List L->Option L
 | b,[]=>b
 | none,x::l=>Yp (some x) l
 | some m,x::l=>if fin x<fin m then Yp (some x) l else Yp (some m) l
theorem W5 : ∀(b:Option L) (l r:List L),Yp fin b (l++r)=Yp fin (Yp fin b l) r
 | b,[],r=>by rfl
 | none,x::l,r=>by rw [List.cons_append,Yp,Yp,W5]
 | some m,x::l,r=>by
  rw [List.cons_append,Yp,Yp]
  split
  ·rw [W5]
  ·rw [W5]
theorem YY : ∀(l:List L) (m:L),∃z,Yp fin (some m) l=some z/\fin z<=fin m/\ ∀y∈l,fin z<=fin y
 | [],m=>⟨m,rfl,Za,Zb⟩
 | x::l,m=>by
  rw [Yp]
  split
  ·rename_i h;obtain ⟨z,e,h1,h2⟩:=YY l x
   grind
  ·rename_i h;obtain ⟨z,e,h1,h2⟩:=YY l m
   grind
theorem Au : ∀(l:List L) (m:L),(∀y∈l,fin m<=fin y)->Yp fin (some m) l=some m
 | [],m,_=>rfl
 | x::l,m,h=>by
  have:=h x List.mem_cons_self;rw [Yp,if_neg Za];exact Au l m fun y hy=>h y (List.mem_cons_of_mem _ hy)
theorem Ev (A B:List L) (h: ∀y∈B,∃z∈A,fin z<=fin y):Yp fin none (A++B)=Yp fin none A:=by
 rw [W5]
 cases A with
 | nil=>cases B with
  | nil=>rfl
  | cons y B=>grind [List.mem_cons_self]
 | cons a A =>
  rw [Yp];obtain ⟨z,e,h1,h2⟩:=YY fin A a;rw [e];refine Au fin B z fun y hy=> ?_
  grind
def ZJ : List L->List L->List L
 | out,[]=>out
 | out,x::l=>if out.any (fun m=>beats m x)=true then ZJ out l else ZJ (out++ [x]) l
theorem Ui {R:L->List L} : ∀(c out:List L),(∀x∈out++c,∀m∈out++c,beats m x=true-> ∀y∈R x,∃z∈R m,fin z<=fin y)->Yp fin none ((ZJ beats out c).flatMap R)=Yp fin none ((out++c).flatMap R)
 | [],out,_=>by simp [ZJ]
 | x::c,out,h=>by
  rw [ZJ]
  split
  ·rename_i hb;obtain ⟨m,hm,hb⟩:=List.any_eq_true.1 hb
   have hb:beats m x=true:=by simpa using hb
   rw [Ui c out (fun a ha b hb=>h a (by simp only [List.mem_append,List.mem_cons] at ha ⊢;rcases ha with h | h<;>simp [h]) b (by simp only [List.mem_append,List.mem_cons] at hb ⊢;rcases hb with h | h<;>simp [h]))];rw [List.flatMap_append,List.flatMap_append,List.flatMap_cons,<- List.append_assoc,W5,W5 (l:=out.flatMap R++R x)];rw [Ev fin (out.flatMap R) (R x)];intro y hy;obtain ⟨z,hz,hle⟩:=h x Zb m (by simp [hm]) hb y hy;exact ⟨z,List.mem_flatMap.2 ⟨m,hm,hz⟩,hle⟩
  ·rw [Ui c (out++ [x]) (by simpa using h)];simp
theorem W9 : ∀(c out:List L),∀x∈ZJ beats out c,x∈out++c
 | [],out,x,h=>by grind [ZJ]
 | a::c,out,x,h=>by
  rw [ZJ] at h
  split at h
  ·have:=W9 c out x h;simp only [List.mem_append,List.mem_cons] at this ⊢;rcases this with h | h<;>simp [h]
  ·have:=W9 c (out++ [a]) x h;simpa using this
def Kr : Nat->Nat->List (List Bool)
 | 0,_=> [[]]
 | j+1,k=>(choices k).flatMap fun b=>(Kr j (k+1)).map (b:: ·)
def Wj : Nat->L->List Bool->Option L
 | _,x,[]=>some x
 | k,x,b::bs=>match nxt k x b with
  | some y=>Wj (k+1) y bs
  | none=>none
def XP (j k:Nat) (x:L):List L:=(Kr choices j k).filterMap (Wj nxt k x)
def XH (k:Nat) (l:List L):List L:=l.flatMap fun x=>(choices k).filterMap (nxt k x)
def Wq : Nat->Nat->List L->List L
 | 0,_,l=>l
 | j+1,k,l=>Wq j (k+1) (ZJ beats [] (XH nxt choices k l))
theorem Cs (k:Nat) (x:L):XP nxt choices 0 k x= [x]:=rfl
theorem QR (j k:Nat) (x:L):XP nxt choices (j+1) k x=((choices k).filterMap (nxt k x)).flatMap (XP nxt choices j (k+1)):=by
 unfold XP;rw [Kr]
 induction choices k with
 | nil=>rfl
 | cons b bs ih =>
  rw [List.flatMap_cons,List.filterMap_append,ih,List.filterMap_cons]
  cases h:nxt k x b with
  | none =>
   simp_all [Wj]
  | some y =>
   rw [List.filterMap_map]
   have:(Wj nxt k x∘fun l=>b::l)=Wj nxt (k+1) y:=by grind [Wj]
   grind
theorem JS {n:Nat} {Inv:Nat->L->Prop} (hI: ∀k x b y,Inv k x->nxt k x b=some y->Inv (k+1) y) (hd: ∀k m x b y,Inv k m->Inv k x->beats m x=true->nxt k x b=some y-> ∃z,nxt k m b=some z/\beats z y=true)
  (he: ∀m x,Inv n m->Inv n x->beats m x=true->fin m<=fin x): ∀(j k:Nat) (m x:L),k+j=n->Inv k m->Inv k x->beats m x=true-> ∀y∈XP nxt choices j k x,∃z∈XP nxt choices j k m,fin z<=fin y
 | 0,k,m,x,hk,h1,h2,hb,y,hy=>by
  grind [Cs]
 | j+1,k,m,x,hk,h1,h2,hb,y,hy=>by
  rw [QR] at hy ⊢;obtain ⟨q,hq,hy⟩:=List.mem_flatMap.1 hy;obtain ⟨b,hbm,hn⟩:=List.mem_filterMap.1 hq;obtain ⟨z,hz,hzb⟩:=hd k m x b q h1 h2 hb hn;obtain ⟨u,hu,hle⟩:=JS hI hd he j (k+1) z q Za (hI k m b z h1 hz) (hI k x b q h2 hn) hzb y hy
  grind
theorem Dq {n:Nat} {Inv:Nat->L->Prop} (hI: ∀k x b y,Inv k x->nxt k x b=some y->Inv (k+1) y) (hd: ∀k m x b y,Inv k m->Inv k x->beats m x=true->nxt k x b=some y-> ∃z,nxt k m b=some z/\beats z y=true)
  (he: ∀m x,Inv n m->Inv n x->beats m x=true->fin m<=fin x): ∀(j k:Nat) (l:List L),k+j=n->(∀x∈l,Inv k x)->Yp fin none (Wq beats nxt choices j k l)=Yp fin none (l.flatMap (XP nxt choices j k))
 | 0,k,l,hk,hl=>by
  have:l.flatMap (XP nxt choices 0 k)=l:=by
   have:XP nxt choices 0 k=fun x=> [x]:=by rfl
   rw [this];simp
  rw [this];rfl
 | j+1,k,l,hk,hl=>by
  have hc: ∀x∈XH nxt choices k l,Inv (k+1) x:=fun x hx=>by
   obtain ⟨q,hq,hx⟩:=List.mem_flatMap.1 hx
   grind
  have e:l.flatMap (XP nxt choices (j+1) k)=(XH nxt choices k l).flatMap (XP nxt choices j (k+1)):=by
   rw [XH,List.flatMap_assoc]
   congr 1
   grind [QR]
  rw [Wq,Dq hI hd he j (k+1) _ Za (fun x hx=>hc x (by simpa using W9 beats _ _ x hx)),Ui fin beats _ _ (fun x hx m hm hb y hy=> ?_),e]
  ·simp
  ·exact JS fin beats nxt choices hI hd he j (k+1) m x Za (hc m (by grind)) (hc x (by grind)) hb y hy
def Xo : List Bool->List (List Bool)
 | []=> [[]]
 | b::bs=>if b then (Xo bs).map (true:: ·) else (Xo bs).map (false:: ·)++(Xo (List.replicate bs.length false)).map (true:: ·)
termination_by l => l.length
decreasing_by all_goals simp
def WS : List Bool->Option (List Bool)
 | []=>none
 | b::bs=>match WS bs with
  | some l=>some (b::l)
  | none=>if b then none else some (true::List.replicate bs.length false)
theorem We : ∀l:List Bool,Xo l=l::(match WS l with | some r=>Xo r | none=> [])
 | []=>by simp [Xo,WS]
 | b::bs=>by
  have ih:=We bs
  have e0: ∀l:List Bool,Xo (true::l)=(Xo l).map (true:: ·):=fun l=>by rw [Xo];simp
  have e1: ∀l:List Bool,Xo (false::l)=(Xo l).map (false:: ·)++(Xo (List.replicate l.length false)).map (true:: ·):=fun l=>by rw [Xo];simp
  cases b with
  | true =>
   rw [e0,ih,WS]
   cases h:WS bs with
   | none=>simp
   | some r=>simp [e0]
  | false =>
   rw [e1,ih,WS]
   cases h:WS bs with
   | none=>simp [e0]
   | some r =>
    have hl:r.length=bs.length:=nlen bs r h;simp [e1,hl]
where nlen : ∀(l r:List Bool),WS l=some r->r.length=l.length
 | [],r,h=>by simp [WS] at h
 | b::bs,r,h=>by
  rw [WS] at h
  cases h2:WS bs with
  | none =>
   grind
  | some q =>
   rw [h2] at h;simp at h;subst h;simp [nlen bs q h2]
theorem Ap {n:Nat} : ∀(j k:Nat),(∀q,k<=q->choices q= [false,true])->Kr choices j k=Xo (List.replicate j false)
 | 0,k,_=>by simp [Kr,Xo]
 | j+1,k,h=>by
  rw [Kr,h k (Nat.le_refl _),Ap (n:=n) j (k+1) (fun q hq=>h q Za),List.replicate_succ,Xo];simp
end
end Go.Proofs.YtmbelkfkhclnkaaGreatDoor.K
namespace Go.Proofs.YtmbelkfkhclnkaaGreatDoor.K
open Go Go.AM Go.Proofs
def Zl (x:Inst):AM.Obj:= .cells [.p (.list x.net.places_c (x.net.places.map eS)),.p (.list x.net.arcs_c (x.net.arcs.map VD)),.p (.list x.types_c (x.types.map Je)),.p (.list x.orders_c (x.orders.map VE)),.p (.list x.apart_c (x.apart.map eP)),.p (.list x.before_c (x.before.map eP))]
def zSco : Sco:=⟨0,0,0,0⟩
set_option maxRecDepth 8000
set_option maxHeartbeats 16000000
def FU (l:List Int) (d:Int):Bool:=rng l.length 1 3&&decide ((l.length:Int)=d)&&l.all fun n=>rng n 0 1000
def dimsOf (l:List Typ):Int:=if l.length=0 then 0 else ((nth l 0).cap.length:Int)
def Rh (t:Typ):AM.Obj:= .cells [.p (.str t.name),.p (.int .i64 t.count),.p (.int .i64 t.src),.p (.int .i64 t.dst),.p (.list t.cap_c (t.cap.map eI)),.p (.int .i64 t.skills),.p (.int .i64 t.prof),.p (.int .i64 t.opn),.p (.int .i64 t.cls),.p (.int .i64 t.drive),.p (.int .i64 t.rest),.p (.int .i64 t.fixed),.p (.int .i64 t.perMile),.p (.int .i64 t.perTick)]
def DS (n:Net) (l:List Typ) (i:Nat):Prop:=((((((((nameOk (nth l i).name=true)/\(∀j,j<i->(nth l j).name≠(nth l i).name))/\rng (nth l i).count 0 10=true)/\(rng (nth l i).src 0 (n.places.length-1)=true/\rng (nth l i).dst 0 (n.places.length-1)=true))/\FU (nth l i).cap (dimsOf l)=true)/\rng (nth l i).skills 0 1073741823=true)/\(rng (nth l i).opn 0 (nth l i).cls=true/\(nth l i).cls<=4096))/\(rng (nth l i).drive 1 4096=true/\rng (nth l i).rest 0 4096=true))/\(rng (nth l i).prof 0 7=true/\rng (nth l i).fixed 0 100000=true/\rng (nth l i).perMile 0 100=true/\rng (nth l i).perTick 0 100=true)
def typesOk (n:Net) (l:List Typ):Prop:=rng l.length 1 6=true/\ ∀i,i<l.length->DS n l i
def loadOk (l:List Int) (d:Int):Bool:=decide ((l.length:Int)=d)&&l.all fun n=>rng n 0 1000
def stpOk (s:Stp):Bool:=decide ((s.place= -1/\s.opn=0/\s.cls=0/\s.serv=0)\/(0<=s.place/\0<=s.opn/\s.opn<=s.cls/\s.cls<=4096/\0<=s.serv/\s.serv<=4096))
def Ce (l:List Ord) (i:Nat):Bool:=(List.range i).all fun j=>decide ((nth l j).name≠(nth l i).name)
theorem AK {l:List Ord} {i:Nat} :Ce l i=true↔ ∀j,j<i->(nth l j).name≠(nth l i).name:=by simp [Ce]
def H9 (b:Bool) (e:Int):List Int:=if b=true then [] else [e]
def NF (t:Ord):Bool:=decide (t.pick.place≠ -1)&&decide (t.drp.place≠ -1)
def argOk (t:Ord) (ty:Int):Bool:=rng t.penalty (-1) 1000000&&rng t.split 1 4&&decide (¬(1<t.split/\NF t=true)/\ -1<=t.last/\t.last<ty/\ -1<=t.now/\t.now<ty)
def QM (np:Nat) (d ty:Int) (l:List Ord) (i:Nat):List Int:=H9 (nameOk (nth l i).name) 5++H9 (Ce l i) 6++H9 (loadOk (nth l i).load d) 17++H9 ((rng (nth l i).pick.place (-1) ((np:Int)-1)&&rng (nth l i).drp.place (-1) ((np:Int)-1))) 11++H9 (decide (¬((nth l i).pick.place= -1/\(nth l i).drp.place= -1))) 19++H9 ((stpOk (nth l i).pick&&stpOk (nth l i).drp)) 14++H9 (rng (nth l i).skills 0 1073741823) 18++H9 (argOk (nth l i) ty) 2
def DC (np:Nat) (d ty:Int) (l:List Ord) (k:Nat):List Flt:=(if l.length<=10 then [] else [(4,[])])++(List.range k).flatMap fun i=>(QM np d ty l i).map fun e=>(e,Ve i)
structure OrdOk (np:Nat) (d ty:Int) (l:List Ord) (i:Nat):Prop where
 name:nameOk (nth l i).name=true
 twin: ∀j,j<i->(nth l j).name≠(nth l i).name
 load:loadOk (nth l i).load d=true
 pick: -1<=(nth l i).pick.place/\(nth l i).pick.place<np
 drp: -1<=(nth l i).drp.place/\(nth l i).drp.place<np
 one: ¬((nth l i).pick.place= -1/\(nth l i).drp.place= -1)
 pstp:stpOk (nth l i).pick=true
 dstp:stpOk (nth l i).drp=true
 skills:0<=(nth l i).skills/\(nth l i).skills<=1073741823
 arg:argOk (nth l i) ty=true
theorem LV {b:Bool} {e:Int} :H9 b e= []↔b=true:=by grind [H9]
theorem KD {np:Nat} {d ty:Int} {l:List Ord} {i:Nat} :QM np d ty l i= []↔OrdOk np d ty l i:=by
 simp only [QM,List.append_eq_nil_iff,LV,Bool.and_eq_true,decide_eq_true_eq,rng,AK]
 constructor
 ·rintro ⟨⟨⟨⟨⟨⟨⟨a1,a2⟩,a3⟩,a4⟩,a5⟩,a6⟩,a7⟩,a8⟩;exact ⟨a1,a2,a3,Za,Za,a5,a6.1,a6.2,a7,a8⟩
 ·intro h;obtain ⟨b1,b2⟩:=h.pick;obtain ⟨b3,b4⟩:=h.drp;exact ⟨⟨⟨⟨⟨⟨⟨h.name,h.twin⟩,h.load⟩,Za,Za⟩,h.one⟩,h.pstp,h.dstp⟩,h.skills⟩,h.arg⟩
def ordersOk (np:Nat) (d ty:Int) (l:List Ord):Prop:=l.length<=10/\ ∀i,i<l.length->OrdOk np d ty l i
theorem AT {np:Nat} {d ty:Int} {l:List Ord} :DC np d ty l l.length= []↔ordersOk np d ty l:=by
 simp_all [DC,KD,ordersOk]
def dU (n:Int) (p:Int×Int):Bool:=decide (0<=p.1/\p.1<n)&&decide (0<=p.2/\p.2<n)&&decide (¬p.1=p.2)
def qN (word:List UInt8) (i:Nat):List UInt8:=word++ [32]++Q6 i
def qW (n:Int) (word:List UInt8) (sm:Int×Int->Int×Int->Bool) (l:List (Int×Int)) (i:Nat):List (Int×List UInt8) :=
 if dU n (nth l i)=false then [(2,qN word i)] else if (l.take i).any (sm (nth l i)) then [(6,qN word i)] else []
def mL (word:List UInt8) (l:List (Int×Int)):List (Int×List UInt8):=if 16<l.length then [(4,word)] else []
def NV (n:Int) (word:List UInt8) (sm:Int×Int->Int×Int->Bool) (l:List (Int×Int)) (k:Nat):List (Int×List UInt8):=mL word l++(List.range k).flatMap (qW n word sm l)
def chk (n:Int) (ap be:List (Int×Int)):List (Int×List UInt8) :=
 NV n [97,112,97,114,116] (fun p q=>decide (p=q\/(p.1=q.2/\p.2=q.1))) ap ap.length++NV n [98,101,102,111,114,101] (fun p q=>decide (p=q)) be be.length
@[go_sem] theorem RW {H:List AM.Obj} {β:Type} {S b o n:Nat} {xs:List PV} {g:β->PV} {m:List β} (hb:(n+m.length)*b<=140737488355328) (hb2:n+m.length<=140737488355328) :
  YU H (some (S,b)) (.elems S xs) o n (some (m.map g))=if xs.length=n/\QK S (m.map g)=true then some (.sl o 0 (n+m.length) (n+m.length),Q9 H o (.elems S (xs++m.map g))) else none:=by
 simp_all [FH]
structure InstOk (x:Inst):Prop where
 net:netOk x.net
 types:typesOk x.net x.types
 orders:ordersOk x.net.places.length (dimsOf x.types) x.types.length x.orders
 rules:chk x.orders.length x.apart x.before= []
theorem Ie (a:Int):IntKind.i64.wrap ((BitVec.ofInt 64 a&&&BitVec.ofInt 64 1).toNat:Int)=a%2:=by
 grind [BitVec.toNat_ofInt,IntWalk.i64_in]
def Jk (s i:Int):Bool:=decide (0<=i)&&decide (i<=62)&&decide (s.fdiv (2^i.toNat)%2=1)
theorem bP (s i:Int):PC 226 [.p (.int .i64 s),.p (.int .i64 i)] (.bool (Jk s i)):=by
 refine Zd Tryz.func226 rfl O4 ?_;simp (disch:=omega) only [Tryz.f226,go_sem,seval];refine gT ?_ ?_<;>intro h<;>simp (disch:=omega) only [Sh.out h,go_sem,seval,↓reduceIte]
 ·refine gT ?_ ?_<;>intro h1<;>simp (disch:=omega) only [Sh.out h1,go_sem,seval,↓reduceIte]
  ·have:min i.toNat 64=i.toNat:=Za
   rw [this]
   erw [Ie]
   simp [Jk,h,h1]
  grind [Jk]
 ·simp [Jk,h]
def Xf (s:Int) (k:Nat):List Int:=((List.range k).filter fun (i:Nat)=>Jk s (i:Int)).map fun (i:Nat)=>(i:Int)
theorem EM (s:Int):Xf s 0= []:=by simp [Xf]
theorem GP {s:Int} {k:Nat} (h:Jk s (k:Int)=true):Xf s (k+1)=Xf s k++ [(k:Int)]:=by grind [Xf,List.range_succ]
theorem Lg {s:Int} {k:Nat} (h:Jk s (k:Int)=false):Xf s (k+1)=Xf s k:=by grind [Xf,List.range_succ]
theorem AI (s:Int) (k:Nat):(Xf s k).length<=k:=by
 grind [Xf]
theorem EN (s:Int):ACalls Tryz.prog 196 [.p (.int .i64 s)] [] fun x H'=>x= .sl 0 0 (Xf s 63).length (Xf s 63).length/\H'= [.elems 1 ((Xf s 63).map eI)]:=by
 refine J8 (fn:=Tryz.f196) Zb Tryz.func196 rfl ON ?_;simp (disch:=omega) only [Tryz.f196,go_sem,seval];refine Zo [0] (fun k:Nat=> [(3,.sl 0 0 (Xf s k).length (Xf s k).length),(5,.p (.int .i64 k))]) (fun k=> [.elems 1 ((Xf s k).map eI)]) (fun k=>k<=63) (fun k=>63-k) 0 Zb (Weak.ofNil 3 1 (by simp (disch:=omega) only [go_sem,seval]) Zb (Weak.mk ?_)) ?_
 ·simp (disch:=omega) only [EM,go_sem,seval,↓reduceIte]
 ·intro k hk;have hl:=AI s k;refine Zk ?_;refine cD ?_ ?_<;>intro h<;>simp (disch:=omega) only [Sh.out h,go_sem,seval,↓reduceIte]
  ·refine (bP s k).use (Zk ?_);refine cD ?_ ?_<;>intro h2<;>simp (disch:=omega) only [Sh.out h2,go_sem,seval,↓reduceIte]
   ·refine ⟨k+1,Za,Za,Weak.mk ?_⟩;simp (disch:=omega) only [GP h2,go_sem,seval]
   ·exact ⟨k+1,Za,Za,Weak.mk (by simp (disch:=omega) only [Lg h2,go_sem,seval])⟩
  ·have:k=63:=Za
   subst this;exact ⟨0,by simp (disch:=omega) only [go_sem,seval]⟩
def hv (s k:Nat):Nat:=s / pw k
theorem N4 (s k:Nat):s.testBit k=decide (hv s k%2=1):=by
 rw [Nat.testBit_eq_decide_div_mod_eq]
 rfl
theorem HF (s i:Nat) (hi:i<=62):Jk (s:Int) (i:Int)=s.testBit i:=by
 rw [N4,hv]
 have h1:(0:Int)<=i:=Za
 have h2:(i:Int)<=62:=Za
 simp only [Jk,h1,h2,decide_true,Bool.true_and,Int.toNat_natCast]
 have e:((s:Int)).fdiv (2^i)=((s / pw i:Nat):Int):=by
  grind [pw]
 grind
theorem CY {α:Type} [Inhabited α] {l:List α} {f:α->Bool} {k:Nat} (h:k<l.length) (hf:f (nth l k)=true):l.any f=true:=by
 grind [Zg]
theorem FF {α:Type} [Inhabited α] {l:List α} {f:α->Bool} (h: ∀j,j<l.length->f (nth l j)=false):l.any f=false:=by
 rw [List.any_eq_false];intro x hx;obtain ⟨j,hj,rfl⟩:=List.mem_iff_getElem.1 hx
 grind [Zg]
deriving instance DecidableEq for Vis
theorem Rj {v w:Vis} :v=w↔v.order=w.order/\v.drp=w.drp:=by cases v;cases w;simp
def BY (f:Vis->Bool) (l:List Vis):Int:=match l.findIdx? f with | some i=>(i:Int) | none=> -1
def vIx (l:List Vis) (v:Vis):Int:=BY (fun w=>decide (v=w)) l
theorem BZ {f:Vis->Bool} {l:List Vis} {k:Nat} (hk:k<l.length) (h:f (nth l k)=true) (hno: ∀j,j<k->f (nth l j)=false):BY f l=(k:Int):=by
 have:l.findIdx? f=some k:=by
  grind [List.findIdx?_eq_some_iff_getElem,Zg]
 simp [BY,this]
theorem F9 {f:Vis->Bool} {l:List Vis} (hno: ∀j,j<l.length->f (nth l j)=false):BY f l= -1:=by
 have:l.findIdx? f=none:=by
  rw [List.findIdx?_eq_none_iff];intro x hx;obtain ⟨j,hj,rfl⟩:=List.mem_iff_getElem.1 hx
  grind [Zg]
 simp [BY,this]
theorem F8 {f:Vis->Bool} {l:List Vis} :decide (0<=BY f l)=l.any f:=by
 grind [BY]
theorem NU {f:Vis->Bool} {l:List Vis} :BY f l<l.length/\ -1<=BY f l:=by
 grind [BY,List.findIdx?_eq_some_iff_getElem]
theorem Wv {P:Program} {id:Nat} {l:List Oper} {fr:List V} {H:List AM.Obj} {Q:Exit->List V->List AM.Obj->Prop} {t} (h:hs P (l.map (·.dst)) H (Zn (fun fr'=>Q .normal (Dm fr') H) ⟨⟩) l (Dm fr)) (hm:P.follows .mixedOrders=true:=by exact mixed) (hB:Yh (List.toArray l) l.length=true:=by kernel_rfl) (hR:Vt (List.toArray l) l.length=true:=by kernel_rfl):AWP P (.region id (Zn (List.toArray l) t) true) fr H Q:=BH hm hB hR h
theorem Dn (l:List Vis) (c:Bool) (v:Vis) (hl:l.length<=1048576):PC 234 [.p (.list c (l.map Z9)),.p (Z9 v)] (.int .i64 (vIx l v)):=by
 refine Zd Tryz.func234 rfl O5 ?_;simp (disch:=omega) only [Tryz.f234,go_sem,seval];refine Zo [0,3,7] (fun k:Nat=> [(8,.p (.int .i64 k))]) (fun _=> [.cells [.p (.int .i64 v.order),.p (.bool v.drp)]]) (fun k=>k<=l.length/\ ∀j,j<k->decide (v=nth l j)=false) (fun k=>l.length-k) 0 Zb (Weak.mk ?_) ?_
 ·simp (disch:=omega) only [go_sem,seval,↓reduceIte]
 ·rintro k ⟨hk,hno⟩;refine Zk ?_;refine cD ?_ ?_<;>intro h<;>simp (disch:=omega) only [Sh.out h,go_sem,seval,↓reduceIte]
  ·have hk2:k<l.length:=Za
   refine Wv (Zk ?_);refine cD ?_ ?_<;>intro h2<;>simp (disch:=omega) only [Sh.out h2,go_sem,seval,↓reduceIte]
   ·grind [Rj,vIx,BZ]
   ·have: ¬v=nth l k:=by grind
    exact ⟨k+1,⟨Za,ZL.2 ⟨hno,by grind⟩⟩,Za,wk⟩
  grind [vIx,F9]
theorem DE (l:List Vis) (c:Bool) (v:Vis) (hl:l.length<=1048576):PC 216 [.p (.list c (l.map Z9)),.p (Z9 v)] (.int .i64 (vIx l v)):=by
 refine Zd Tryz.func216 rfl OU ?_;simp (disch:=omega) only [Tryz.f216,go_sem,seval];refine (Dn l c v hl).use ?_;simp (disch:=omega) only [go_sem,seval]
theorem Kp (l:List Vis) (c:Bool) (v:Vis) (hl:l.length<=1048576):PC 218 [.p (.list c (l.map Z9)),.p (Z9 v)] (.bool (decide (0<=vIx l v))):=by
 refine Zd Tryz.func218 rfl OW ?_;simp (disch:=omega) only [Tryz.f218,go_sem,seval];refine (Dn l c v hl).use ?_;simp (disch:=omega) only [go_sem,seval]
theorem L9 (l:List Ord) (c:Bool) (n:Int) (hl:l.length<=1048576):PC 117 [.p (.list c (l.map VE)),.p (.int .i64 n)] (.bool (decide (0<=n/\n<l.length))):=by
 refine Zd Tryz.func117 rfl Gw ?_;simp (disch:=omega) only [Tryz.f117,go_sem,seval];refine gT ?_ ?_<;>intro h<;>simp (disch:=omega) only [Sh.out h,go_sem,seval,↓reduceIte]
 all_goals (try simp [h])
def X8 (l:List Ord) (i:Nat):List Vis:=(if 0<=(nth l i).pick.place then [⟨i,false⟩] else [])++(if 0<=(nth l i).drp.place then [⟨i,true⟩] else [])
theorem HO (l:List Ord) (i:Nat):(X8 l i).length<=2:=by grind [X8]
theorem CN (l:List Ord) (c:Bool) (i:Nat) (hi:i<l.length) (hl:l.length<=1048576):ACalls Tryz.prog 217 [.p (.list c (l.map VE)),.p (.int .i64 (i:Nat))] [] fun x H'=>x= .sl 0 0 (X8 l i).length (X8 l i).length/\H'= [.elems 2 ((X8 l i).map Z9)]:=by
 suffices hh:ACalls Tryz.prog 217 [.p (.list c (l.map VE)),.p (.int .i64 (i:Nat))] [] fun x H'=> ∃m:List Vis,m=X8 l i/\x= .sl 0 0 m.length m.length/\H'= [.elems 2 (m.map Z9)] by
  grind
 refine Jc [2] Tryz.func217 rfl OV ?_;simp (disch:=omega) only [Tryz.f217,go_sem,seval];refine Zp (Weak.ofNil 5 2 (by simp (disch:=omega) only [go_sem,seval]) Zb (Weak.refl _ _ _)) ?_;refine Zc [4] _ _ _ _ (Zk ?_);refine (L9 l c i hl).use (Zk ?_)
 have h0:(0:Int)<=(i:Int)/\(i:Int)<(l.length:Int):=Za
 simp (disch:=omega) only [h0,go_sem,seval];refine XK [0,1] (fun m:List Vis=> [(5,.sl 0 0 m.length m.length)]) (fun m=> [.elems 2 (m.map Z9)]) (fun m=>m=(if 0<=(nth l i).pick.place then [⟨i,false⟩] else [])) ?_ ?_
 ·refine Zk ?_;refine cD ?_ ?_<;>intro h<;>simp (disch:=omega) only [Sh.out h,go_sem,seval,↓reduceIte]
  ·exact ⟨[⟨i,false⟩],by simp [],wk⟩
  ·exact ⟨[],by simp [],wk⟩
 ·intro m hm
  have hml:m.length<=1:=by grind
  refine Zc [] _ _ _ _ (Zk ?_);refine cD ?_ ?_<;>intro h<;>simp (disch:=omega) only [Sh.out h,go_sem,seval,↓reduceIte]
  ·exact ⟨m++ [⟨i,true⟩],by simp_all [X8],0,by simp (disch:=omega) only [go_sem,seval]⟩
  ·exact ⟨m,by simp_all [X8],0,by simp (disch:=omega) only [go_sem,seval]⟩
theorem visits_c (l:List Ord) (c:Bool) (i:Nat) (hi:i<l.length) (hl:l.length<=1048576):PC 217 [.p (.list c (l.map VE)),.p (.int .i64 (i:Nat))] (.list false ((X8 l i).map Z9)) :=
 (CN l c i hi hl).frozen Zb
def Uw (l:List Vis):Bool:=(List.range l.length).any fun i=>decide (0<=vIx (l.take i) (nth l i))
theorem Mc (l:List Vis) (c:Bool) (hl:l.length<=1048576):PC 183 [.p (.list c (l.map Z9))] (.bool (Uw l)):=by
 refine Zd Tryz.func183 rfl OB ?_;simp (disch:=omega) only [Tryz.f183,go_sem,seval];refine Zo [0,5,6] (fun k:Nat=> [(7,.p (.int .i64 k))]) (fun _=> []) (fun k=>k<=l.length/\ ∀j,j<k->decide (0<=vIx (l.take j) (nth l j))=false) (fun k=>l.length-k) 0 Zb (Weak.mk ?_) ?_
 ·simp (disch:=omega) only [go_sem,seval,↓reduceIte]
 ·rintro k ⟨hk,hno⟩;refine Zk ?_;refine cD ?_ ?_<;>intro h<;>simp (disch:=omega) only [Sh.out h,go_sem,seval,↓reduceIte]
  ·have hk2:k<l.length:=Za
   refine Wv (Zk ?_);refine Xn (DE (l.take k) _ (nth l k) (by simp;omega)) (Zk ?_);refine cD ?_ ?_<;>intro h2<;>simp (disch:=omega) only [Sh.out h2,go_sem,seval,↓reduceIte]
   ·grind [Uw]
   ·exact ⟨k+1,⟨Za,ZL.2 ⟨hno,by grind⟩⟩,Za,wk⟩
  grind [Uw]
theorem UF (l:List Vis) (c:Bool) (g:FuncId) (caps:List V) (H:List AM.Obj) (f:Vis->Bool) (hl:l.length<=1048576) (hW:Bs H H.length H H) (hc:Zy H.length caps=true)
  (hg: ∀v∈l,ACalls Tryz.prog g (.p (Z9 v)::caps) H fun x H'=>x= .p (.bool (f v))/\H'=H) :
  ACalls Tryz.prog 215 [.p (.list c (l.map Z9)),.fn (.func g) [] caps] H fun x H'=>x= .p (.int .i64 (BY f l))/\H'=H:=by
 refine Xu Tryz.func215 rfl OT (Zc [] _ _ _ _ ?_);simp (disch:=omega) only [Tryz.f215,go_sem,seval];refine Zo [0,1,7] (fun k:Nat=> [(8,.p (.int .i64 k))]) (fun _=>H) (fun k=>k<=l.length/\ ∀j,j<k->f (nth l j)=false) (fun k=>l.length-k) 0 Zb (Weak.mk ?_) ?_
 ·simp (disch:=omega) only [hW,hc,go_sem,seval];simp
 ·rintro k ⟨hk,hno⟩;refine Zk ?_;refine cD ?_ ?_<;>intro h<;>simp (disch:=omega) only [Sh.out h,go_sem,seval,↓reduceIte]
  ·have hk2:k<l.length:=Za
   refine (hg (nth l k) (Xj hk2)).useH (Zk ?_);refine cD ?_ ?_<;>intro h2<;>simp (disch:=omega) only [Sh.out h2,go_sem,seval,↓reduceIte]
   ·grind [BZ]
   ·have h3:f (nth l k)=false:=Za
    refine ⟨k+1,⟨Za,ZL.2 ⟨hno,h3⟩⟩,Za,Weak.mk ?_⟩;simp (disch:=omega) only [hW,hc,go_sem,seval];simp
  grind [F9]
theorem Yx (l:List Vis) (c:Bool) (g:FuncId) (caps:List V) (H:List AM.Obj) (f:Vis->Bool) (hl:l.length<=1048576) (hW:Bs H H.length H H) (hc:Zy H.length caps=true)
  (hg: ∀v∈l,ACalls Tryz.prog g (.p (Z9 v)::caps) H fun x H'=>x= .p (.bool (f v))/\H'=H) :
  ACalls Tryz.prog 180 [.p (.list c (l.map Z9)),.fn (.func g) [] caps] H fun x H'=>x= .p (.bool (l.any f))/\H'=H:=by
 refine Xu Tryz.func180 rfl Oy (Zc [] _ _ _ _ ?_);simp (disch:=omega) only [Tryz.f180,go_sem,seval];refine (UF l c g caps H f hl hW hc hg).useH (Zk ?_);rw [F8]
def Yj (l:List Vis) (o:Int):Bool:=l.any fun v=>decide (v.order=o)
theorem N0 (v:Vis) (o:Int):ACalls Tryz.prog 219 [.p (Z9 v),.ptr 0 0] [.cells [.p (.int .i64 o)]] fun x H'=>x= .p (.bool (decide (v.order=o)))/\H'= [.cells [.p (.int .i64 o)]]:=by
 refine Ze [] Tryz.func219 rfl OX ?_;simp (disch:=omega) only [Tryz.f219,go_sem,seval];exact we
theorem Eg (v:Vis) (o:Int):ACalls Tryz.prog 220 [.p (Z9 v),.ptr 0 0] [.cells [.p (.int .i64 o)]] fun x H'=>x= .p (.bool (decide (v.order=o)))/\H'= [.cells [.p (.int .i64 o)]]:=by
 refine Ze [] Tryz.func220 rfl OY ?_;simp (disch:=omega) only [Tryz.f220,go_sem,seval];exact we
theorem V4 (l:List Vis) (c:Bool) (o:Int) (hl:l.length<=1048576):PC 185 [.p (.list c (l.map Z9)),.p (.int .i64 o)] (.bool (Yj l o)):=by
 refine Zd Tryz.func185 rfl OD ?_;simp (disch:=omega) only [Tryz.f185,go_sem,seval];refine (Yx l c 219 [.ptr 0 0] [.cells [.p (.int .i64 o)]] (fun v=>decide (v.order=o)) hl (by simp (disch:=omega) only [go_sem,seval]) (by rfl) (fun v _=>N0 v o)).useH (Zk ?_);rw [Yj]
def Yi (l:List Vis) (a b:Int):Bool:=if BY (fun v=>decide (v.order=b)) l<0 then true else Yj l a&& !Yj (l.drop (BY (fun v=>decide (v.order=b)) l).toNat) a
theorem Bc (l:List Vis) (c:Bool) (a b:Int) (hl:l.length<=1048576):PC 186 [.p (.list c (l.map Z9)),.p (.int .i64 a),.p (.int .i64 b)] (.bool (Yi l a b)):=by
 refine Zd Tryz.func186 rfl OE ?_;simp (disch:=omega) only [Tryz.f186,go_sem,seval];refine (UF l c 220 [.ptr 0 0] [.cells [.p (.int .i64 b)]] (fun v=>decide (v.order=b)) hl (by simp (disch:=omega) only [go_sem,seval]) (by rfl) (fun v _=>Eg v b)).useH ?_;have hlt:=NU (f:=fun v=>decide (v.order=b)) (l:=l);refine Zk ?_;refine cD ?_ ?_<;>intro h<;>simp (disch:=omega) only [Sh.out h,go_sem,seval]
 ·rw [Yi,if_pos h]
 ·refine (V4 l c a hl).use (Zk ?_);generalize hq:BY (fun v=>decide (v.order=b)) l=q at hlt h ⊢
  cases h2:Yj l a with
  | false =>
   refine Zk ?_
   simp_all [Yi]
  | true =>
   simp (disch:=omega) only [List.take_length,go_sem,seval];refine (V4 (l.drop q.toNat) _ a (by simp;omega)).use (Zk ?_)
   simp_all [Yi,if_neg]
def Uc (l:List Vis):Int->List Vis->Bool
 | _,[]=>true
 | last,w::r=>decide (last<vIx l w)&&Uc l (vIx l w) r
def pairB (os:List Ord) (l:List Vis) (v:Vis):Bool:=decide (0<=vIx (X8 os v.order.toNat) v)&&Uc l (-1) (X8 os v.order.toNat)
theorem Be (x:Inst) (l:List Vis) (c:Bool) (hl:l.length<=1048576) (ho:x.orders.length<=1048576) (hv: ∀v∈l,0<=v.order/\v.order<x.orders.length) :
  PC 184 [.p (XU x),.p (.list c (l.map Z9))] (.bool (l.all (pairB x.orders l))):=by
 refine Zd Tryz.func184 rfl OC ?_;simp (disch:=omega) only [Tryz.f184,go_sem,seval];refine Zo [1,2,12,13] (fun k:Nat=> [(14,.p (.int .i64 k))]) (fun _=> [Zl x]) (fun k=>k<=l.length/\ ∀j,j<k->pairB x.orders l (nth l j)=true) (fun k=>l.length-k) 0 Zb (Weak.mk ?_) ?_
 ·simp (disch:=omega) only [Zl,go_sem,seval]
 ·rintro k ⟨hk,hno⟩;simp (disch:=omega) only [Zl,go_sem,seval];refine cD ?_ ?_<;>intro h<;>simp (disch:=omega) only [Sh.out h,go_sem,seval,↓reduceIte]
  ·have hk2:k<l.length:=Za
   obtain ⟨v1,v2⟩:=hv _ (Xj hk2)
   have hbad:pairB x.orders l (nth l k)=false->l.all (pairB x.orders l)=false:=fun h4=>by
    grind [Xj]
   obtain ⟨i,hi⟩: ∃i:Nat,(nth l k).order=(i:Int):=⟨(nth l k).order.toNat,Za⟩
   have hp:pairB x.orders l (nth l k)=(decide (0<=vIx (X8 x.orders i) (nth l k))&&Uc l (-1) (X8 x.orders i)):=by rw [pairB,hi];rfl
   rw [hi] at v1 v2;simp (disch:=omega) only [hi,go_sem,seval];refine (visits_c x.orders x.orders_c i Za ho).use (Zk ?_);have hvl:=HO x.orders i;have hcon:=Kp (X8 x.orders i) false (nth l k) Za;rw [IV,hi] at hcon;refine (hcon).use (Zk ?_);refine cD ?_ ?_<;>intro h2<;>simp (disch:=omega) only [Sh.out h2,go_sem,seval]
   ·grind
   ·have h2':0<=vIx (X8 x.orders i) (nth l k):=Za
    generalize hown:X8 x.orders i=own at hvl hp h2' ⊢
    have hp2:pairB x.orders l (nth l k)=Uc l (-1) own:=by grind
    refine Zo [1,2,12,13,14,27,28] (fun q:Nat×Int=> [(8,.p (.int .i64 q.2)),(29,.p (.int .i64 q.1))]) (fun _=> [Zl x,.cells [.p (.int .i64 (i:Int)),.p (.bool (nth l k).drp)]]) (fun q=>q.1<=own.length/\Uc l (-1) own=Uc l q.2 (own.drop q.1)) (fun q=>own.length-q.1) (0,-1) Zb (Weak.mk ?_) ?_
    ·simp (disch:=omega) only [Zl,go_sem,seval]
    ·rintro ⟨j,last⟩ ⟨hj,ha⟩;simp only at hj ha;simp (disch:=omega) only [Zl,go_sem,seval];refine YE ?_ ?_<;>intro h3
     ·have hj2:j<own.length:=Za
      have hd:own.drop j=nth own j::own.drop (j+1):=by rw [List.drop_eq_getElem_cons hj2,Zg hj2]
      rw [hd] at ha;refine (DE l c (nth own j) hl).use (Zk ?_);refine YE ?_ ?_<;>intro h4
      ·grind [Uc]
      ·have h5:last<vIx l (nth own j):=Za
       exact ⟨(j+1,vIx l (nth own j)),⟨Za,by grind [Uc]⟩,Za,wk⟩
     ·have hjl:j=own.length:=Za
      subst hjl;exact ⟨k+1,⟨Za,ZL.2 ⟨hno,by grind [Uc]⟩⟩,Za,wk⟩
  ·have hkl:k=l.length:=Za
   subst hkl
   have:l.all (pairB x.orders l)=true:=by
    rw [List.all_eq_true];intro v hv;obtain ⟨j,hj,rfl⟩:=List.mem_iff_getElem.1 hv
    grind [Zg]
   rw [this]
def Z3 (r:Rte):AM.Obj:= .cells [.p (.int .i64 r.typ),.p (.int .i64 r.start),.p (.list r.rests_c (r.rests.map eB)),.p (.list r.visits_c (r.visits.map Z9))]
def QO (x:Inst) (v:Vis):Bool:= !decide (0<=v.order/\v.order<(x.orders.length:Int))
theorem FV (x:Inst) (r:Rte) (v:Vis) (ho:x.orders.length<=1048576):ACalls Tryz.prog 181 [.p (Z9 v),.ptr 0 0] [Zl x,Z3 r] fun y H'=>y= .p (.bool (QO x v))/\H'= [Zl x,Z3 r]:=by
 refine Ze [] Tryz.func181 rfl Oz ?_;simp (disch:=omega) only [Tryz.f181,Zl,Z3,go_sem,seval];refine gF ?_ ?_<;>intro h<;>simp (disch:=omega) only [Sh.out h,go_sem,seval,↓reduceIte]
 ·have e:QO x v=true:=by
   grind [QO]
  rw [e];exact we
 ·have e:QO x v=decide ((x.orders.length:Int)<=v.order):=by
   have h0:0<=v.order:=Za
   rw [Bool.eq_iff_iff];simp [QO,h0]
  rw [e];exact we
theorem FW (x:Inst) (r:Rte) (v:Vis) (ho:x.orders.length<=1048576) (h1:0<=v.order) (h2:v.order<x.orders.length):ACalls Tryz.prog 182 [.p (Z9 v),.ptr 0 0] [Zl x,Z3 r] fun y H'=>y= .p (.bool (nth x.orders v.order.toNat).off)/\H'= [Zl x,Z3 r]:=by
 have h3:v.order.toNat<x.orders.length:=Za
 refine Ze [] Tryz.func182 rfl OA ?_;simp (disch:=omega) only [Tryz.f182,Zl,Z3,go_sem,seval];exact we
def ZX (x:Inst) (l:List Vis):Int :=
 if l.length=0\/l.any (QO x)=true then 2
 else if (l.any fun v=>(nth x.orders v.order.toNat).off)=true then 9
 else if Uw l=true then 6
 else if l.all (pairB x.orders l)=false then 19
 else if (x.apart.any fun p=>Yj l p.1&&Yj l p.2)=true then 20
 else if (x.before.any fun p=> !Yi l p.1 p.2)=true then 21
 else 0
theorem J0 {P Q:Prop} (h:Q) (e:Q->P:=by intro h;simp (disch:=omega) only [Zl,Z3,go_sem,seval];exact h):P:=e h
theorem CE (x:Inst) (r:Rte) (ho:x.orders.length<=1048576) (hl:r.visits.length<=1048576) (hap:x.apart.length<=1048576) (hbe:x.before.length<=1048576) :
  PC 153 [.p (XU x),.p (Vp r)] (.int .i64 (ZX x r.visits)):=by
 refine Zd Tryz.func153 rfl Oh ?_;simp (disch:=omega) only [Tryz.f153,go_sem,seval];refine gF ?_ ?_<;>intro h0<;>simp (disch:=omega) only [Sh.out h0,go_sem,seval]
 ·grind [ZX]
 ·have h00: ¬r.visits.length=0:=Za
  refine (Yx r.visits r.visits_c 181 [.ptr 0 0] [Zl x,Z3 r] (QO x) hl (by simp (disch:=omega) only [Zl,Z3,go_sem,seval]) (by rfl) (fun v _=>FV x r v ho)).useH (J0 ?_);refine cD ?_ ?_<;>intro h1<;>simp (disch:=omega) only [Sh.out h1,go_sem,seval]
  ·simp_all [ZX]
  ·have h1':r.visits.any (QO x)=false:=Za
   have c1: ¬(r.visits.length=0\/r.visits.any (QO x)=true):=by grind
   have hin: ∀v∈r.visits,0<=v.order/\v.order<x.orders.length:=fun v hv=>by
    grind [QO]
   refine (Yx r.visits r.visits_c 182 [.ptr 0 0] [Zl x,Z3 r] (fun v=>(nth x.orders v.order.toNat).off) hl (by simp (disch:=omega) only [Zl,Z3,go_sem,seval]) (by rfl) (fun v hv=>FW x r v ho (hin v hv).1 (hin v hv).2)).useH (J0 ?_);refine cD ?_ ?_<;>intro h2<;>simp (disch:=omega) only [Sh.out h2,go_sem,seval]
   ·simp_all [ZX]
   ·refine (Mc r.visits r.visits_c hl).use (Zk ?_);refine cD ?_ ?_<;>intro h3<;>simp (disch:=omega) only [Sh.out h3,go_sem,seval,↓reduceIte]
    ·simp_all [ZX,if_neg]
    ·refine (Be x r.visits r.visits_c hl ho hin).use (Zk ?_);refine cD ?_ ?_<;>intro h4<;>simp (disch:=omega) only [Sh.out h4,go_sem,seval,↓reduceIte]
     ·simp_all [ZX,if_neg]
     ·have h4':r.visits.all (pairB x.orders r.visits)=true:=by grind
      have hc:ZX x r.visits=if (x.apart.any fun p=>Yj r.visits p.1&&Yj r.visits p.2)=true then 20 else if (x.before.any fun p=> !Yi r.visits p.1 p.2)=true then 21 else 0:=by
       rw [ZX,if_neg c1,if_neg (by grind),if_neg (by grind),if_neg (by grind)]
      clear h4 h4' h3 h2 c1 h1' h1 h0;refine Zo [2,5,33,34] (fun k:Nat=> [(35,.p (.int .i64 k))]) (fun _=> [Zl x,Z3 r]) (fun k=>k<=x.apart.length/\ ∀j,j<k->(Yj r.visits (nth x.apart j).1&&Yj r.visits (nth x.apart j).2)=false) (fun k=>x.apart.length-k) 0 Zb (Weak.mk ?_) ?_
      ·simp (disch:=omega) only [Zl,Z3,go_sem,seval]
      ·rintro k ⟨hk,hno⟩;refine J0 ?_;refine cD ?_ ?_<;>intro h<;>simp (disch:=omega) only [Sh.out h,go_sem,seval,↓reduceIte]
       ·have hk2:k<x.apart.length:=Za
        refine (V4 r.visits r.visits_c (nth x.apart k).1 hl).use (Zk ?_);refine aZ ?_ ?_<;>intro h2
        ·refine (V4 r.visits r.visits_c (nth x.apart k).2 hl).use (Zk ?_);refine YE ?_ ?_<;>intro h3
         ·rw [hc,if_pos (CY hk2 (by grind))]
         ·exact ⟨k+1,⟨Za,ZL.2 ⟨hno,by grind⟩⟩,Za,wk⟩
        ·exact ⟨k+1,⟨Za,ZL.2 ⟨hno,by simp [h2]⟩⟩,Za,wk⟩
       ·have hkl:k=x.apart.length:=Za
        subst hkl;rw [hc,FF hno];clear hno hk h hc;rw [if_neg Zb];refine Zo [5,51,52] (fun k:Nat=> [(53,.p (.int .i64 k))]) (fun _=> [Zl x,Z3 r]) (fun k=>k<=x.before.length/\ ∀j,j<k->(!Yi r.visits (nth x.before j).1 (nth x.before j).2)=false) (fun k=>x.before.length-k) 0 Zb (Weak.mk ?_) ?_
        ·simp (disch:=omega) only [Zl,Z3,go_sem,seval]
        ·rintro k ⟨hk,hno⟩;refine J0 ?_;refine cD ?_ ?_<;>intro h<;>simp (disch:=omega) only [Sh.out h,go_sem,seval,↓reduceIte]
         ·have hk2:k<x.before.length:=Za
          refine (Bc r.visits r.visits_c (nth x.before k).1 (nth x.before k).2 hl).use (Zk ?_);refine YE ?_ ?_<;>intro h2
          ·have h3:(!Yi r.visits (nth x.before k).1 (nth x.before k).2)=true:=Za
           rw [if_pos (CY hk2 h3)]
          ·have h3:(!Yi r.visits (nth x.before k).1 (nth x.before k).2)=false:=Za
           exact ⟨k+1,⟨Za,ZL.2 ⟨hno,h3⟩⟩,Za,wk⟩
         grind [FF]
@[go_sem] theorem gS {H:List AM.Obj} {n cs cs'} :Q5 H n (.tup cs) (.tup cs')=(cs'=cs/\Zy n cs=true):=by simp [Q5,HY,refB]
@[go_sem] theorem Ct {a b:V} :WV [a,b]= .tup [a,b]:=Eq.trans rfl rfl
theorem Ux {g:FuncId} {args:List V} {a b:PV} {H:List AM.Obj} {K:V->List AM.Obj->Prop} (h:ACalls Tryz.prog g args [] fun x H'=>x= .tup [.p a,.p b]/\H'= []) (k:K (.tup [.p a,.p b]) H) (ha:Zy 0 args=true:=by rfl):ACalls Tryz.prog g args H K :=
 (h.behind ha H).mono fun x H' hq=>by
  obtain ⟨y,H1,⟨rfl,rfl⟩,rfl,rfl⟩:=hq
  grind [Bf,Wl]
def Ww (l:List Vis):Nat:=l.foldl (fun s v=>s|||pw v.order.toNat) 0
def HZ (v:Vis):Bool:=decide (0<=v.order/\v.order<=62)
theorem JM {l:List Vis} {k:Nat} (hk:k<l.length):Ww (l.take (k+1))=Ww (l.take k)|||pw (nth l k).order.toNat:=by
 grind [List.take_succ_eq_append_getElem,Ww,Zg]
theorem DB : ∀(k:Nat) {l:List Vis},k<=l.length->(∀v∈l.take k,HZ v=true)->Ww (l.take k)<9223372036854775808
 | 0,l,_,_=>by simp [Ww]
 | k+1,l,hk,h=>by
  have hk2:k<l.length:=Za
  have ih:=DB k (l:=l) Za fun v hv=>h v (List.take_subset_take_left l Za hv);have hv:=h (nth l k) (by rw [Zg hk2];exact List.mem_iff_getElem.2 ⟨k,by simp;omega,Zb⟩);simp only [HZ,decide_eq_true_eq] at hv;have h2:pw (nth l k).order.toNat<=pw 62:=Hp Za;have h3:=Ho;rw [JM hk2];exact Nat.or_lt_two_pow (n:=63) Za Za
def AS (l:List Vis):Int×Int:=if l.all HZ=true then (((Ww l:Nat):Int),0) else (0,2)
theorem Bd (r:Rte) (hl:r.visits.length<=1048576):PT 121 [.p (Vp r)] [.p (.int .i64 (AS r.visits).1),.p (.int .i64 (AS r.visits).2)]:=by
 refine Ze [] Tryz.func121 rfl N9 ?_;simp (disch:=omega) only [Tryz.f121,go_sem,seval];refine Zo [8,9] (fun k:Nat=> [(4,.p (.int .i64 (Ww (r.visits.take k):Nat))),(10,.p (.int .i64 k))]) (fun _=> [Z3 r]) (fun k=>k<=r.visits.length/\ ∀j,j<k->HZ (nth r.visits j)=true) (fun k=>r.visits.length-k) 0 Zb (Weak.mk ?_) ?_
 ·simp (disch:=omega) only [Z3,Ww,List.take_zero,List.foldl_nil,go_sem,seval]
 ·rintro k ⟨hk,hno⟩
  have hlt:=DB k hk fun v hv=>by
   obtain ⟨j,hj,rfl⟩:=List.mem_iff_getElem.1 hv
   grind [Zg]
  simp (disch:=omega) only [Z3,go_sem,seval];refine cD ?_ ?_<;>intro h<;>simp (disch:=omega) only [Sh.out h,go_sem,seval,↓reduceIte]
  ·have hk2:k<r.visits.length:=Za
   have hbad:HZ (nth r.visits k)=false->AS r.visits=(0,2):=fun h4=>by
    grind [Xj,AS]
   have hs:=JM hk2
   have hp:(nth r.visits k).order<=62->pw (nth r.visits k).order.toNat<=4611686018427387904:=fun h=>by rw [<- Ho];exact Hp Za
   refine gF ?_ ?_<;>intro h1<;>simp (disch:=omega) only [Sh.out h1,go_sem,seval,↓reduceIte]
   ·have e:=hbad (by simp [HZ];omega);rw [e];exact we
   ·refine YE ?_ ?_<;>intro h2
    ·have e:=hbad (by simp [HZ];omega);rw [e];exact we
    ·exact ⟨k+1,⟨Za,ZL.2 ⟨hno,by simp [HZ];omega⟩⟩,Za,Weak.mk (by simp (disch:=omega) only [hs,go_sem,seval])⟩
  ·have hkl:k=r.visits.length:=Za
   subst hkl
   have:r.visits.all HZ=true:=by
    rw [List.all_eq_true];intro v hv;obtain ⟨j,hj,rfl⟩:=List.mem_iff_getElem.1 hv
    grind [Zg]
   have e:AS r.visits=(((Ww r.visits:Nat):Int),0):=by simp [AS,this]
   rw [e,List.take_length];exact we
def dn (v:Vis):Int:=if v.drp=true then 1 else 0
def qD (nx:List Vis->List Vis):Nat->List Vis->List (List Vis)->List (List Vis)×Bool
 | 0,l,outs=>(outs++ [l],decide (outs.length+1<=8192))
 | f+1,l,outs=>(nx l).foldl (fun acc v=>if acc.2=true then qD nx f (l++ [v]) acc.1 else acc) (outs,true)
def Plc (x:Inst):Prop:= ∀o∈x.orders,-1<=o.pick.place/\ -1<=o.drp.place
def GE (l:List Vis) (a b:Int) (j k:Nat):Bool:=decide ((nth l j).order=a)&&decide ((nth l k).order=b)
theorem V6 {l:List Vis} {v:Vis} :0<=vIx l v↔v∈l:=by
 grind [F8,vIx]
def Vne (x:Inst):Prop:= ∀i,i<x.orders.length->X8 x.orders i≠ []
def ext (nx:List Vis->List Vis):Nat->List Vis->List (List Vis)->List (List Vis)
 | 0,l,outs=>if 8192<outs.length then outs else outs++ [l]
 | f+1,l,outs=>if 8192<outs.length then outs else (nx l).foldl (fun acc v=>ext nx f (l++ [v]) acc) outs
structure IFacts (x:Inst):Prop where
 len:x.orders.length<=10
 plc:Plc x
 vne:Vne x
 val:Val x.orders.length x.before
 ne: ∀p∈x.before,p.1≠p.2
 aval:Val x.orders.length x.apart
theorem Gd {n:Int} {word:List UInt8} {sm:Int×Int->Int×Int->Bool} {l:List (Int×Int)} (h:NV n word sm l l.length= []): ∀p∈l,dU n p=true:=by
 intro p hp;obtain ⟨i,hi,rfl⟩:=List.mem_iff_getElem.1 hp;have h2:=(List.append_eq_nil_iff.1 h).2;rw [List.flatMap_eq_nil_iff] at h2;have h3:=h2 i (by grind)
 grind [qW,Zg]
theorem EA {x:Inst} (h:InstOk x):IFacts x:=by
 have ho:=h.orders;obtain ⟨h1,h2⟩:=List.append_eq_nil_iff.1 h.rules;have ha:=Gd h1;have hb:=Gd h2
 have hpl:Plc x:=fun o hm=>by
  obtain ⟨i,hi,rfl⟩:=List.mem_iff_getElem.1 hm;have:=ho.2 i hi;rw [<- Zg hi];exact ⟨this.pick.1,this.drp.1⟩
 have val: ∀l:List (Int×Int),(∀p∈l,dU x.orders.length p=true)->Val x.orders.length l:=fun l h p hp=>by
  grind [dU]
 refine ⟨ho.1,hpl,fun i hi=> ?_,val _ hb,fun p hp=> ?_,val _ ha⟩
 ·have h3:=ho.2 i hi;have h4:=hpl _ (Xj hi);have h5:=h3.one
  grind [X8]
 grind [dU]
theorem Qu {l:List Vis} {o:Int} :Yj l o=true↔ ∃v∈l,v.order=o:=by simp [Yj]
theorem Ha : ∀(l:List Vis) (i:Nat),(Ww l).testBit i=true↔ ∃v∈l,v.order.toNat=i:=by
 have key: ∀(l:List Vis) (s i:Nat),(l.foldl (fun s v=>s|||pw v.order.toNat) s).testBit i=true↔s.testBit i=true\/ ∃v∈l,v.order.toNat=i:=by
  intro l
  induction l with
  | nil=>simp
  | cons v l ih =>
   intro s i;rw [List.foldl_cons,ih,Nat.testBit_or,CK,Bool.or_eq_true,decide_eq_true_eq,or_assoc];simp
 grind [Ww]
def Inr (x:Inst) (l:List Vis):Prop:= ∀v∈l,0<=v.order/\v.order<x.orders.length
theorem KQ {l:List Vis} (hd:l.Nodup) {k:Nat} (hk:k<l.length):vIx l (nth l k)=(k:Int):=by
 refine BZ hk Zb fun j hj=> ?_
 grind [Zg,List.pairwise_iff_getElem]
theorem Me {l:List Vis} {v:Vis} (h:0<=vIx l v):(vIx l v).toNat<l.length/\nth l (vIx l v).toNat=v:=by
 grind [vIx,BY,List.findIdx?_eq_some_iff_getElem,Zg]
theorem Bl {l:List Vis} {v:Vis} {i:Nat} (h:v∈l.take i): ∃j,j<i/\j<l.length/\nth l j=v:=by
 obtain ⟨j,hj,rfl⟩:=List.mem_iff_getElem.1 h;simp at hj;exact ⟨j,Za,Za,by grind [Zg]⟩
theorem AJ {l:List Vis} {i j:Nat} (h:j<i) (hl:j<l.length):nth l j∈l.take i:=by
 grind [Zg,List.mem_iff_getElem]
theorem CM {l:List Vis} :Uw l=false↔l.Nodup:=by
 rw [Uw,List.any_eq_false]
 constructor
 ·intro h;rw [List.nodup_iff_pairwise_ne,List.pairwise_iff_getElem];intro i j hi hj hij e;have:=h j (by grind);simp only [decide_eq_true_eq,V6] at this;refine this ?_;rw [Zg hj,<- e,<- Zg hi];exact AJ hij hi
 ·intro h j hj;simp only [decide_eq_true_eq,V6]
  grind [Bl,KQ]
def Bx (x:Inst) (l:List Vis) (n i:Nat):Bool:=(l.take n).foldl (fun on v=>if v.order=(i:Int) then !v.drp else on) (decide ((nth x.orders i).pick.place<0))
theorem G5 {x:Inst} {l:List Vis} {i:Nat} :Bx x l 0 i=decide ((nth x.orders i).pick.place<0):=by simp [Bx]
theorem QL {x:Inst} {l:List Vis} {n i:Nat} (h:n<l.length):Bx x l (n+1) i=if (nth l n).order=(i:Int) then !(nth l n).drp else Bx x l n i:=by
 grind [Bx,List.take_succ_eq_append_getElem,Zg]
structure SqOk (x:Inst) (l:List Vis):Prop where
 ne:l≠ []
 inr:Inr x l
 nd:l.Nodup
 pair: ∀v∈l,pairB x.orders l v=true
theorem XC {x:Inst} {l:List Vis} (h:ZX x l=0):SqOk x l:=by
 unfold ZX at h
 split at h
 ·simp at h
 ·rename_i h1
  split at h
  ·simp at h
  ·split at h
   ·simp at h
   ·rename_i h3
    split at h
    ·simp at h
    ·rename_i h4;refine ⟨fun e=>h1 (.inl (by simp [e])),fun v hv=> ?_,CM.1 (by grind),fun v hv=> ?_⟩
     ·grind [QO]
     grind
structure OwnV (x:Inst) (l:List Vis) (i:Nat):Prop where
 pick:0<=(nth x.orders i).pick.place->(⟨i,false⟩:Vis)∈l
 drp:0<=(nth x.orders i).drp.place->(⟨i,true⟩:Vis)∈l
 both:0<=(nth x.orders i).pick.place->0<=(nth x.orders i).drp.place->vIx l ⟨i,false⟩<vIx l ⟨i,true⟩
 isP:(⟨i,false⟩:Vis)∈l->0<=(nth x.orders i).pick.place
 isD:(⟨i,true⟩:Vis)∈l->0<=(nth x.orders i).drp.place
theorem SqOk.own {x:Inst} {l:List Vis} (h:SqOk x l) {i:Nat} (hi: ∃v∈l,v.order=(i:Int)):OwnV x l i:=by
 obtain ⟨v0,hv0,ho⟩:=hi
 have key: ∀v∈l,v.order=(i:Int)->v∈X8 x.orders i/\Uc l (-1) (X8 x.orders i)=true:=fun v hv hvo=>by
  have:=h.pair v hv;simp only [pairB,hvo,Int.toNat_natCast,Bool.and_eq_true,decide_eq_true_eq] at this;exact ⟨V6.1 this.1,this.2⟩
 obtain ⟨_,hasc⟩:=key v0 hv0 ho;have mem: ∀b:Bool,(⟨i,b⟩:Vis)∈l->(⟨i,b⟩:Vis)∈X8 x.orders i:=fun b hb=>(key _ hb rfl).1
 have hp:(⟨i,false⟩:Vis)∈X8 x.orders i->0<=(nth x.orders i).pick.place:=fun hm=>by
  unfold X8 at hm
  grind
 have hd:(⟨i,true⟩:Vis)∈X8 x.orders i->0<=(nth x.orders i).drp.place:=fun hm=>by
  unfold X8 at hm
  grind
 have m1: ∀v,-1<vIx l v->v∈l:=fun v hv=>V6.1 Za;unfold X8 at hasc
 by_cases c1:0<=(nth x.orders i).pick.place<;>by_cases c2:0<=(nth x.orders i).drp.place
 ·simp only [c1,c2,if_true,List.cons_append,List.nil_append,Uc,Bool.and_true,Bool.and_eq_true,decide_eq_true_eq] at hasc;exact ⟨fun _=>m1 _ hasc.1,fun _=>m1 _ Za,fun _ _=>hasc.2,fun _=>c1,fun _=>c2⟩
 ·simp only [c1,c2,if_true,if_false,List.append_nil,Uc,Bool.and_true,decide_eq_true_eq] at hasc;exact ⟨fun _=>m1 _ hasc,fun h=>absurd h c2,fun _ h=>absurd h c2,fun _=>c1,fun hm=>hd (mem _ hm)⟩
 ·simp only [c1,c2,if_true,if_false,List.nil_append,Uc,Bool.and_true,decide_eq_true_eq] at hasc;exact ⟨fun h=>absurd h c1,fun _=>m1 _ hasc,fun h=>absurd h c1,fun hm=>hp (mem _ hm),fun _=>c2⟩
 ·exact ⟨fun h=>absurd h c1,fun h=>absurd h c2,fun h=>absurd h c1,fun hm=>hp (mem _ hm),fun hm=>hd (mem _ hm)⟩
theorem Y3 {l:List Vis} (hn:l.Nodup) {v:Vis} {n:Nat} :v∈l.take n↔0<=vIx l v/\vIx l v<(n:Int):=by
 constructor
 ·intro h;obtain ⟨j,h1,h2,rfl⟩:=Bl h
  grind [KQ]
 ·intro ⟨h1,h2⟩;obtain ⟨h3,h4⟩:=Me h1
  grind [AJ]
theorem G4 {x:Inst} {l:List Vis} (h:SqOk x l) (i:Nat): ∀n,n<=l.length->Bx x l n i=if (⟨i,true⟩:Vis)∈l.take n then false else if (⟨i,false⟩:Vis)∈l.take n then true else decide ((nth x.orders i).pick.place<0)
 | 0,_=>by simp [Bx]
 | n+1,hn=>by
  have hk:n<l.length:=Za
  have hat:=KQ h.nd hk;rw [QL hk,G4 h i n Za]
  by_cases c:(nth l n).order=(i:Int)
  ·rw [if_pos c];have ho:=h.own (i:=i) ⟨nth l n,Xj hk,c⟩
   cases hd:(nth l n).drp with
   | true =>
    have hv:nth l n=⟨i,true⟩:=by rw [<- c,<- hd]
    rw [hv] at hat;have:(⟨i,true⟩:Vis)∈l.take (n+1):=(Y3 h.nd).2 Za;rw [if_pos this];rfl
   | false =>
    have hv:nth l n=⟨i,false⟩:=by rw [<- c,<- hd]
    rw [hv] at hat;have h1:(⟨i,false⟩:Vis)∈l.take (n+1):=(Y3 h.nd).2 Za
    have h2: ¬(⟨i,true⟩:Vis)∈l.take (n+1):=fun hm=>by
     have h3:=List.mem_of_mem_take hm;have h4:=(Y3 h.nd).1 hm;have h5:=ho.both (ho.isP (List.mem_of_mem_take h1)) (ho.isD h3);omega
    rw [if_neg h2,if_pos h1];rfl
  ·rw [if_neg c]
   have e: ∀b:Bool,((⟨i,b⟩:Vis)∈l.take (n+1))=((⟨i,b⟩:Vis)∈l.take n):=fun b=>by
    rw [List.take_succ_eq_append_getElem hk,List.mem_append,<- Zg hk];refine propext ⟨fun hm=>hm.resolve_right fun hm=> ?_,.inl⟩;simp at hm;exact c (by rw [<- hm])
   simp only [e]
theorem PA {x:Inst} {l:List Vis} (h:SqOk x l) {k i:Nat} (hk:k<l.length) (hi:(nth l k).order=(i:Int)):Bx x l k i=(nth l k).drp:=by
 have hat:=KQ h.nd hk;have ho:=h.own (i:=i) ⟨nth l k,Xj hk,hi⟩;have hm:=Xj hk;rw [G4 h i k Za]
 cases hd:(nth l k).drp with
 | true =>
  have hv:nth l k=⟨i,true⟩:=by rw [<- hi,<- hd]
  rw [hv] at hat hm
  have h1: ¬(⟨i,true⟩:Vis)∈l.take k:=fun hm=>by have:=(Y3 h.nd).1 hm;omega
  rw [if_neg h1]
  by_cases c:0<=(nth x.orders i).pick.place
  ·have h2:=ho.both c (ho.isD hm);have h3:(⟨i,false⟩:Vis)∈l.take k:=(Y3 h.nd).2 ⟨V6.2 (ho.pick c),Za⟩
   grind
  grind
 | false =>
  have hv:nth l k=⟨i,false⟩:=by rw [<- hi,<- hd]
  rw [hv] at hat hm;have hp:=ho.isP hm
  have h1: ¬(⟨i,false⟩:Vis)∈l.take k:=fun hm=>by have:=(Y3 h.nd).1 hm;omega
  grind
theorem L6 {f g:Nat->Int} {i:Nat} (h: ∀q,q≠i->f q=g q): ∀n,i<n->((List.range n).map f).sum=((List.range n).map g).sum+(f i-g i):=by
 have same: ∀n,n<=i->((List.range n).map f).sum=((List.range n).map g).sum:=fun n hn=>by
  grind [List.map_congr_left]
 intro n
 induction n with
 | zero=>omega
 | succ n ih =>
  intro hi;simp only [List.range_succ,List.map_append,List.map_cons,List.map_nil,List.sum_append,List.sum_cons,List.sum_nil]
  grind
theorem DR {f:Nat->Int} {b:Int} (hb:0<=b) (h: ∀q,0<=f q/\f q<=b): ∀n:Nat,0<=((List.range n).map f).sum/\((List.range n).map f).sum<=b*n
 | 0=>Zb
 | n+1=>by
  have ih:=DR hb h n
  grind [List.range_succ]
theorem Vv {p:Nat->Bool} {f:Nat->Int} : ∀l:List Nat,((l.filter p).map f).sum=(l.map fun i=>if p i=true then f i else 0).sum
 | []=>rfl
 | a::l=>by
  rw [List.filter_cons,List.map_cons,List.sum_cons]
  by_cases h:p a=true
  ·rw [if_pos h,List.map_cons,List.sum_cons,Vv l,if_pos h]
  ·rw [if_neg h,Vv l,if_neg h];omega
def Q2 (x:Inst) (l:List Vis) (n j:Nat):Int:=((List.range x.orders.length).map fun i=>if (Bx x l n i&&Yj l i)=true then nth (nth x.orders i).load j else 0).sum
theorem J1 {x:Inst} {l:List Vis} (h:SqOk x l) {k j:Nat} (hk:k<l.length):Q2 x l (k+1) j=if (nth l k).drp=true then Q2 x l k j-nth (nth x.orders (nth l k).order.toNat).load j else Q2 x l k j+nth (nth x.orders (nth l k).order.toNat).load j:=by
 obtain ⟨v1,v2⟩:=h.inr _ (Xj hk);obtain ⟨i,hi⟩: ∃i:Nat,(nth l k).order=(i:Int):=⟨(nth l k).order.toNat,Za⟩;have hh:Yj l (i:Int)=true:=Qu.2 ⟨_,Xj hk,hi⟩;have h1:=PA h hk hi
 have h2:Bx x l (k+1) i= !(nth l k).drp:=by simp_all [QL]
 unfold Q2
 rw [L6 (f:=fun i=>if (Bx x l (k+1) i&&Yj l i)=true then nth (nth x.orders i).load j else 0) (g:=fun i=>if (Bx x l k i&&Yj l i)=true then nth (nth x.orders i).load j else 0) (i:=i) (fun q hq=>by
  have:Bx x l (k+1) q=Bx x l k q:=by rw [QL hk,if_neg Za]
  grind) x.orders.length Za]
 grind
def Ya (x:Inst) (l:List Vis) (n:Nat):List Int:=(List.range (dimsOf x.types).toNat).map fun j=>Q2 x l n j
def U7 (a b:List Int):List Int:=(List.range a.length).map fun j=>nth a j+nth b j
def L5 (a b:List Int):List Int:=(List.range a.length).map fun j=>nth a j-nth b j
theorem KZ {x:Inst} {l:List Vis} {n:Nat} :(Ya x l n).length=(dimsOf x.types).toNat:=by simp [Ya]
theorem WU {f:Nat->Int} {n j:Nat} (h:j<n):nth ((List.range n).map f) j=f j:=by
 grind [Zg]
theorem D2 {x:Inst} {l:List Vis} (h:SqOk x l) {k:Nat} (hk:k<l.length):Ya x l (k+1)=if (nth l k).drp=true then L5 (Ya x l k) (nth x.orders (nth l k).order.toNat).load else U7 (Ya x l k) (nth x.orders (nth l k).order.toNat).load:=by
 have key: ∀g:Nat->Int,(∀j,j<(dimsOf x.types).toNat->Q2 x l (k+1) j=g j)->Ya x l (k+1)=(List.range (dimsOf x.types).toNat).map g:=fun g hg =>
  List.map_congr_left fun j hj=>hg j (List.mem_range.1 hj)
 split
 ·simp_all [L5,J1,Ya,WU]
 simp_all [U7,J1,Ya,WU]
def Xx (p:Pln):AM.Obj:= .cells [.p (.list p.routes_c (p.routes.map Vp)),.p (.list p.unserved_c (p.unserved.map eI))]
def Hv (r:Rte):Prop:=r.visits.length<=1048576/\r.rests.length<=1048576
def V3 (l:List Pt) (t:Int) (i:Nat):Bool:=decide ((nth l i).t<=t)&&decide (t<(nth l (i+1)).t)
def KL (p q:Pt) (t:Int):Int:=p.a+((t-p.t)*(q.a-p.a)+q.t-p.t-1) / (q.t-p.t)
def WG (l:List Pt) (t:Int):Int:=match (List.range (l.length-1)).find? (V3 l t) with
 | some i=>KL (nth l i) (nth l (i+1)) t
 | none=>if (nth l 0).t<t then t+(nth l (l.length-1)).a-(nth l (l.length-1)).t else t+(nth l 0).a-(nth l 0).t
theorem C1 {l:List Pt} {t:Int} {i:Nat} (hi:i+1<l.length) (hno: ∀j,j<i->V3 l t j=false) (h:V3 l t i=true):WG l t=KL (nth l i) (nth l (i+1)) t:=by
 have:(List.range (l.length-1)).find? (V3 l t)=some i:=by
  grind [List.find?_eq_some_iff_getElem]
 rw [WG,this]
theorem Kf {l:List Pt} {t:Int} (hno: ∀j,j+1<l.length->V3 l t j=false):WG l t=if (nth l 0).t<t then t+(nth l (l.length-1)).a-(nth l (l.length-1)).t else t+(nth l 0).a-(nth l 0).t:=by
 grind [WG]
theorem A9 {p q:Pt} {t:Int} (h1:p.t<=t) (h2:t<q.t) (hp:0<=p.t) (hq:q.t<=4096) (ha:p.a<=q.a) (hpa:0<=p.a) (hqa:q.a<=8192):0<=(t-p.t)*(q.a-p.a)/\(t-p.t)*(q.a-p.a)<=33554432:=by
 refine ⟨Int.mul_nonneg Za Za,?_⟩;have:(t-p.t)*(q.a-p.a)<=4096*8192:=Int.mul_le_mul Za Za Za Za;omega
theorem Zr {α:Type} [Inhabited α] {l:List α} {i:Nat} (h:i<l.length):nth l i∈l:=by grind [Zg]
def Ni (a:Arc):Prop:=YB a.travel/\a.slow.length<=16/\ ∀p∈a.slow,0<=p.t/\p.t<=4096/\0<=p.a/\p.a<=4096
def Vk (l:List Pt) (t:Int) (k:Nat):Int:=(l.take k).foldl (fun s p=>if p.t<=t then s+p.a else s) 0
def D7 (a:Arc) (t:Int):Int:=WG a.travel t+Vk a.slow t a.slow.length
theorem Q0 {l:List Pt} {t:Int} {k:Nat} (h:k<l.length):Vk l t (k+1)=if (nth l k).t<=t then Vk l t k+(nth l k).a else Vk l t k:=by
 grind [Vk,List.take_succ_eq_append_getElem,Zg]
theorem Va {l:List Pt} {t:Int} (hl: ∀p∈l,0<=p.a/\p.a<=4096): ∀k,k<=l.length->0<=Vk l t k/\Vk l t k<=4096*k
 | 0,_=>by simp [Vk]
 | k+1,h=>by
  have ih:=Va (t:=t) hl k Za
  grind [Zr,Q0]
theorem K5 {l:List Pt} {t:Int} (hl:YB l) (ht:0<=t/\t<=1073741824):0<=WG l t/\WG l t<=1107304448:=by
 obtain ⟨⟨hl1,hl2⟩,hpt⟩:=hl;unfold WG
 split
 ·rename_i i hi;have hm:=List.mem_of_find?_eq_some hi;have hs:=List.find?_some hi;simp at hm;simp only [V3,Bool.and_eq_true,decide_eq_true_eq] at hs;obtain ⟨⟨p1,p2,p3,p4⟩,_⟩:=hpt i Za;obtain ⟨⟨q1,q2,q3,q4⟩,q5⟩:=hpt (i+1) Za;obtain ⟨r1,r2⟩:=q5 Za;rw [Nat.add_sub_cancel] at r1 r2;obtain ⟨s1,s2⟩:=A9 hs.1 hs.2 p1 q2 r2 Za Za;have d1:0<=((t-(nth l i).t)*((nth l (i+1)).a-(nth l i).a)+(nth l (i+1)).t-(nth l i).t-1) / ((nth l (i+1)).t-(nth l i).t):=Int.ediv_nonneg Za Za;have d2:((t-(nth l i).t)*((nth l (i+1)).a-(nth l i).a)+(nth l (i+1)).t-(nth l i).t-1) / ((nth l (i+1)).t-(nth l i).t)<=33558528:=Int.le_trans (Int.ediv_le_self _ Za) Za
  unfold KL;omega
 ·obtain ⟨⟨p1,p2,p3,p4⟩,_⟩:=hpt 0 Za;obtain ⟨⟨q1,q2,q3,q4⟩,_⟩:=hpt (l.length-1) Za;omega
theorem MU {g:FuncId} {args:List V} {a b c:PV} {H:List AM.Obj} {K:V->List AM.Obj->Prop} (h:ACalls Tryz.prog g args [] fun x H'=>x= .tup [.p a,.p b,.p c]/\H'= []) (k:K (.tup [.p a,.p b,.p c]) H) (ha:Zy 0 args=true:=by rfl):ACalls Tryz.prog g args H K :=
 (h.behind ha H).mono fun x H' hq=>by
  obtain ⟨y,H1,⟨rfl,rfl⟩,rfl,rfl⟩:=hq
  grind [Bf,Wl]
theorem ZV {g:FuncId} {args:List V} {a b:PV} {H:List AM.Obj} {K:V->List AM.Obj->Prop} (h:ACalls Tryz.prog g args [] fun x H'=>x= .tup [.p a,.p b]/\H'= []) (k:K (.tup [.p a,.p b]) H) (ha:Zy 0 args=true:=by rfl):ACalls Tryz.prog g args H K :=
 (h.behind ha H).mono fun x H' hq=>by
  obtain ⟨y,H1,⟨rfl,rfl⟩,rfl,rfl⟩:=hq
  grind [Bf,Wl]
def QQ (n:Net) (p:Int):Bool:=decide (0<=p)&&decide (p<(n.places.length:Int))
def Wo (pr f t:Int) (a:Arc):Bool:=decide (a.src=f)&&decide (a.dst=t)&&decide (a.prof=pr)
def Vc : Arc:=⟨0,0,0,0,true,[],true,[]⟩
def Yg (n:Net) (pr f t:Int):Arc×Bool:=match n.arcs.find? (Wo pr f t) with | some a=>(a,true) | none=>(Vc,false)
theorem Ga {n:Net} {pr f t:Int} {k:Nat} (hk:k<n.arcs.length) (hno: ∀j,j<k->Wo pr f t (nth n.arcs j)=false) (h:Wo pr f t (nth n.arcs k)=true):Yg n pr f t=(nth n.arcs k,true):=by
 have:n.arcs.find? (Wo pr f t)=some (nth n.arcs k):=by
  grind [List.find?_eq_some_iff_getElem,Zg]
 rw [Yg,this]
theorem Gb {n:Net} {pr f t:Int} (hno: ∀j,j<n.arcs.length->Wo pr f t (nth n.arcs j)=false):Yg n pr f t=(Vc,false):=by
 have:n.arcs.find? (Wo pr f t)=none:=by
  rw [List.find?_eq_none];intro a ha;obtain ⟨j,hj,rfl⟩:=List.mem_iff_getElem.1 ha
  grind [Zg]
 rw [Yg,this]
def Jf (n:Net) (pr f t τ:Int):Int×Int×Int :=
 if (QQ n f&&QQ n t)=false then (0,0,11) else if f=t then (τ,0,0) else if (Yg n pr f t).2=true then (D7 (Yg n pr f t).1 τ,(Yg n pr f t).1.miles,0) else (0,0,12)
def netR (n:Net):Prop:=n.places.length<=1048576/\n.arcs.length<=1048576/\ ∀a∈n.arcs,Ni a
theorem Uh {n:Net} {pr f t:Int} (h:(Yg n pr f t).2=true):(Yg n pr f t).1∈n.arcs:=by
 grind [Yg]
theorem Db {n:Nat} (h:n<10):Q6 n= [UInt8.ofNat (48+n)]:=by rw [Q6,dif_pos h]
theorem IM {n:Nat} (h:10<=n) (h2:n<100):Q6 n= [UInt8.ofNat (48+n / 10),UInt8.ofNat (48+n%10)]:=by
 rw [Q6,dif_neg Za,Db Za];rfl
theorem K6 {s:List UInt8} {k k':IntKind} {a b:Int} (h:0<=a/\a<=b/\b<=(s.length:Int)):Ud (some .string) s (.p (.int k a)) (.p (.int k' b))=some (.p (.str ((s.take b.toNat).drop a.toNat))):=by
 simp_all [Ud]
def digT : List UInt8:=(List.range 36).map fun i=>UInt8.ofNat (if i<10 then 48+i else 87+i)
def smalT : List UInt8:=(List.range 100).flatMap fun i=> [UInt8.ofNat (48+i / 10),UInt8.ofNat (48+i%10)]
theorem IP : ∀n,n<10->(digT.take (n+1)).drop n= [UInt8.ofNat (48+n)]:=by decide
theorem HK : ∀n,n<100->(smalT.take (2*n+2)).drop (2*n)= [UInt8.ofNat (48+n / 10),UInt8.ofNat (48+n%10)]:=by decide+kernel
theorem LW (n:Nat) (hn:n<100):PC 202 [.p (.int .i64 (n:Int))] (.str (Q6 n)):=by
 refine Zd Tryz.func202 rfl OR ?_;simp (disch:=omega) only [Tryz.f202,go_sem,seval];refine cD ?_ ?_<;>intro h<;>simp (disch:=omega) only [Sh.out h,go_sem,seval]
 ·rw [Db Za,K6 (by simp;omega)]
  have e1:((n:Int)+1).toNat=n+1:=Za
  have e2:((n:Int)).toNat=n:=Za
  rw [e1,e2];refine (congrArg (fun z=>Ja (some (V.p (PV.str z))) _) (IP n Za)).mpr ?_;simp (disch:=omega) only [go_sem,seval]
 ·rw [IM Za hn,K6 (by simp;omega)]
  have e1:((n:Int)*2+2).toNat=2*n+2:=Za
  have e2:((n:Int)*2).toNat=2*n:=Za
  rw [e1,e2];refine (congrArg (fun z=>Ja (some (V.p (PV.str z))) _) (HK n Za)).mpr ?_;simp (disch:=omega) only [go_sem,seval]
theorem Gf (n:Nat) (hn:n<100):PC 167 [.p (.int .i64 (n:Int)),.p (.int .i64 10)] (.str (Q6 n)):=by
 refine Zd Tryz.func167 rfl Ov ?_
 have h0:(0:Int)<=(n:Int):=Za
 have h1:(n:Int)<100:=Za
 simp (disch:=omega) only [Tryz.f167,h0,h1,go_sem,seval];refine (LW n hn).use ?_;simp (disch:=omega) only [go_sem,seval]
theorem I7 (n:Nat) (hn:n<100):PC 122 [.p (.int .i64 (n:Int))] (.str (Q6 n)):=by
 refine Zd Tryz.func122 rfl Oa ?_;simp (disch:=omega) only [Tryz.f122,go_sem,seval];refine (Gf n hn).use ?_;simp (disch:=omega) only [go_sem,seval]
theorem Pn (n:Nat) (hn:n<100):PC 89 [.p (.int .i64 (n:Int))] (.str (Q6 n)):=by
 refine Zd Tryz.func89 rfl MI ?_;simp (disch:=omega) only [Tryz.f89,go_sem,seval];refine (I7 n hn).use ?_;simp (disch:=omega) only [go_sem,seval]
theorem Bq (n a b:Int):PC 249 [.p (.int .i64 n),.p (.int .i64 a),.p (.int .i64 b)] (.bool (decide (a<=n)&&decide (n<=b))):=by
 refine Zd Tryz.func249 rfl Pg ?_;simp (disch:=omega) only [Tryz.f249,go_sem,seval]
 repeat' (first | (refine gT ?_ ?_<;>intro hq<;>simp (disch:=omega) only [Sh.out hq,go_sem,seval,↓reduceIte]) | (refine K0 (fun hq=> ?_) (fun hq=> ?_)<;>(try simp only [decide_eq_true_eq,decide_eq_false_iff_not,Classical.not_not] at hq)<;>simp (disch:=omega) only [Sh.out hq,go_sem,seval]) | (refine CU (fun hq=> ?_) (fun hq=> ?_)<;>(try simp only [decide_eq_true_eq,decide_eq_false_iff_not,Classical.not_not] at hq)<;>simp (disch:=omega) only [Sh.out hq,go_sem,seval]))
 all_goals (simp;first | done | omega)
theorem Hd (l:List Pt) (c:Bool) (hl:YB l):PC 252 [.p (.list c (l.map Er))] (.list true []):=by
 obtain ⟨⟨hl1,hl2⟩,hpt⟩:=hl;refine Zd Tryz.func252 rfl Pj ?_
 have e1: ¬(l.length:Int)=0:=Za
 have e2: ¬(16:Int)<(l.length:Int):=Za
 simp (disch:=omega) only [Tryz.f252,e1,e2,go_sem,seval];refine Zo [0,19,20] (fun k:Nat=> [(3,.p (.list true [])),(21,.p (.int .i64 k))]) (fun _=> []) (fun k=>k<=l.length) (fun k=>l.length-k) 0 Zb (Weak.mk ?_) ?_
 ·simp (disch:=omega) only [go_sem,seval,↓reduceIte]
 ·intro k hk;refine Zk ?_;refine cD ?_ ?_<;>intro h<;>simp (disch:=omega) only [Sh.out h,go_sem,seval,↓reduceIte]
  ·have hk2:k<l.length:=Za
   obtain ⟨⟨p1,p2,p3,p4⟩,q⟩:=hpt k hk2;refine (Pn k Za).use (Zk ?_);refine (Bq (nth l k).t 0 4096).use (Zk ?_);simp (disch:=omega) only [p1,p2,go_sem,seval];refine gF ?_ ?_<;>intro h3<;>simp (disch:=omega) only [Sh.out h3,go_sem,seval,↓reduceIte]
   ·omega
   ·refine cD ?_ ?_<;>intro h4<;>simp (disch:=omega) only [Sh.out h4,go_sem,seval,↓reduceIte]
    ·omega
    ·refine Wv (Zk ?_);refine gT ?_ ?_<;>intro h5<;>simp (disch:=omega) only [Sh.out h5,go_sem,seval,↓reduceIte]
     ·obtain ⟨r1,r2⟩:=q Za;refine gF ?_ ?_<;>intro h6<;>simp (disch:=omega) only [Sh.out h6,go_sem,seval,↓reduceIte]
      ·omega
      ·refine cD ?_ ?_<;>intro h7<;>simp (disch:=omega) only [Sh.out h7,go_sem,seval,↓reduceIte]
       ·omega
       ·exact ⟨k+1,Za,Za,wk⟩
     ·exact ⟨k+1,Za,Za,wk⟩
theorem C9 (p:Pt) (t:Int) (h:0<=p.t/\p.t<=4096) (ht:0<=t/\t<=1073741824):PC 254 [.p (Er p),.p (.int .i64 t)] (.int .i64 (p.t-t)):=by
 refine Zd Tryz.func254 rfl Pl ?_;simp (disch:=omega) only [Tryz.f254,go_sem,seval,↓reduceIte]
theorem LL (l:List Pt) (c:Bool) (hl:YB l):PC 250 [.p (.list c (l.map Er))] (.bool true):=by
 refine Zd Tryz.func250 rfl Ph ?_;simp (disch:=omega) only [Tryz.f250,go_sem,seval];refine (Hd l c hl).use ?_;simp (disch:=omega) only [go_sem,seval]
structure PosT (l:List Pt) (t:Int) (i:Nat):Prop where
 le:i<=l.length
 lo: ∀j,j<i->(nth l j).t<t
 hi: ∀j,i<=j->j<l.length->t<=(nth l j).t
theorem aY (l:List Pt) (c:Bool) (t:Int) (i:Nat) (hl:YB l) (ht:0<=t/\t<=1073741824) (hi:PosT l t i):PT 253 [.p (.list c (l.map Er)),.p (.int .i64 t),.fn (.func 254) [] []] [.p (.int .i64 (i:Int)),.p (.bool (decide (i<l.length)&&decide ((nth l i).t=t)))]:=by
 obtain ⟨⟨hl1,hl2⟩,hpt⟩:=hl;obtain ⟨hi1,hi2,hi3⟩:=hi;refine Ze [] Tryz.func253 rfl Pk ?_;simp (disch:=omega) only [Tryz.f253,go_sem,seval];refine Zo [0,1,2,8] (fun q:Nat×Nat=> [(9,.p (.int .i64 q.1)),(10,.p (.int .i64 q.2))]) (fun _=> []) (fun q=>q.1<=i/\i<=q.2/\q.2<=l.length) (fun q=>q.2-q.1) (0,l.length) (by simp;omega) (Weak.mk ?_) ?_
 ·simp (disch:=omega) only [go_sem,seval,↓reduceIte]
 ·rintro ⟨a,b⟩ ⟨h1,h2,h3⟩;simp only at h1 h2 h3;refine Zk ?_;refine cD ?_ ?_<;>intro h<;>simp (disch:=omega) only [Sh.out h,go_sem,seval,↓reduceIte]
  ·have hm:(a+b) / 2<l.length:=Za
   obtain ⟨⟨p1,p2,p3,p4⟩,q⟩:=hpt _ hm
   have hs:((a:Int)+(b:Int)).fdiv (2^min 1 64)=(((a+b) / 2:Nat):Int):=by
    grind
   have em:((((a+b) / 2:Nat)):Int).toNat=(a+b) / 2:=Za
   have hnb:((a+b) / 2<i)↔(nth l ((a+b) / 2)).t-t<0:=by
    grind
   rw [hs];refine Zk ?_;refine (C9 (nth l ((a+b) / 2)) t ⟨p1,p2⟩ ht).use (Zk ?_);refine cD ?_ ?_<;>intro h4<;>simp (disch:=omega) only [Sh.out h4,go_sem,seval,↓reduceIte]
   ·exact ⟨((a+b) / 2+1,b),⟨Za,h2,h3⟩,Za,wk⟩
   ·exact ⟨(a,(a+b) / 2),⟨h1,Za,Za⟩,Za,wk⟩
  ·have:a=i:=Za
   subst this;refine gT ?_ ?_<;>intro h4<;>simp (disch:=omega) only [Sh.out h4,go_sem,seval,↓reduceIte]
   ·have hm:a<l.length:=Za
    obtain ⟨⟨p1,p2,p3,p4⟩,q⟩:=hpt _ hm;refine (C9 (nth l a) t ⟨p1,p2⟩ ht).use (Zk ?_);have e5:((nth l a).t-t=0)=((nth l a).t=t):=propext Za;exact we (by simp (disch:=omega) only [e5,hm,go_sem,seval])
   ·have hm: ¬a<l.length:=Za
    exact we (by simp (disch:=omega) only [hm,go_sem,seval])
structure Lab where
 ready:Int
 since:Int
 she:She
 deriving Inhabited
def zShe : She:=⟨false,0,true,[],0,0⟩
def XF : Lab:=⟨0,0,zShe⟩
def ZN (t:Typ) (L:Lab) (b:Bool):Int:=if b=true then L.ready+t.rest else L.ready
def Wy (L:Lab) (b:Bool):Int:=if b=true then 0 else L.since
def MO (l:List Tim) (k:Nat) (d:Int) (b:Bool):List Tim:=l.set k { nth l k with dep:=d,rest:=b }
def Z2 (k:Nat) (d:Int) (b:Bool) (s:She):She:=if k=0 then { s with rest:=b,dep:=d } else { s with times:=MO s.times (k-1) d b }
def EY (t:Typ) (sp:List Stp) (k:Nat):Int:=if k=0 then t.src else (nth sp (k-1)).place
def MS (t:Typ) (sp:List Stp) (k:Nat):Int:=if k=sp.length then t.dst else (nth sp k).place
def Av (x:Inst) (t:Typ) (sp:List Stp) (k:Nat) (d:Int):Int×Int×Int:=Jf x.net t.prof (EY t sp k) (MS t sp k) d
def Yw (t:Typ) (sp:List Stp) (k:Nat) (g:Int×Int×Int) (d s:Int) (h:She):Lab×Int :=
 if ¬g.2.2=0 then (XF,12)
 else if k=sp.length then
  if t.cls<g.1 then (XF,15) else if t.drive<s+g.1-d then (XF,16)
  else (⟨g.1,s+g.1-d,{ h with fin:=g.1,miles:=h.miles+g.2.1 }⟩,0)
 else if (nth sp k).cls<max g.1 (nth sp k).opn then (XF,14)
 else if t.drive<s+g.1-d then (XF,16)
 else (⟨max g.1 (nth sp k).opn+(nth sp k).serv,s+g.1-d,{ h with times_c:=false,times:=h.times++ [⟨g.1,max g.1 (nth sp k).opn,0,false⟩],miles:=h.miles+g.2.1 }⟩,0)
def Xg (x:Inst) (t:Typ) (sp:List Stp) (k:Nat) (L:Lab) (b:Bool):Lab×Int :=
 Yw t sp k (Av x t sp k (ZN t L b)) (ZN t L b) (Wy L b) (Z2 k (ZN t L b) b L.she)
def ZS (x:Inst) (t:Typ) (sp:List Stp) (k:Nat) (L:Lab) (b:Bool):Option Lab:=if (Xg x t sp k L b).2=0 then some (Xg x t sp k L b).1 else none
def ZZ (x:Inst) (t:Typ) (sp:List Stp):Nat->Lab->List Bool->Lab×Int
 | _,L,[]=>(L,0)
 | k,L,b::bs=>if (Xg x t sp k L b).2=0 then ZZ x t sp (k+1) (Xg x t sp k L b).1 bs else (XF,(Xg x t sp k L b).2)
def ZU (t:Typ) (st:Int):Lab:=⟨max t.opn st,0,zShe⟩
theorem YC {x:Inst} {t:Typ} {sp:List Stp} : ∀(bs:List Bool) (k:Nat) (L:Lab),Wj (ZS x t sp) k L bs=if (ZZ x t sp k L bs).2=0 then some (ZZ x t sp k L bs).1 else none
 | [],k,L=>by rfl
 | b::bs,k,L=>by
  rw [Wj,ZZ,ZS]
  by_cases h:(Xg x t sp k L b).2=0
  ·simp only [h,if_true];exact YC bs (k+1) _
  ·simp [h]
structure TrpOk (x:Inst) (t:Typ) (sp:List Stp):Prop where
 net:netR x.net
 mil: ∀a∈x.net.arcs,0<=a.miles/\a.miles<=10000
 opn:0<=t.opn/\t.opn<=t.cls/\t.cls<=4096
 drv:1<=t.drive/\t.drive<=4096
 rst:0<=t.rest/\t.rest<=4096
 stp: ∀s∈sp,0<=s.opn/\s.opn<=s.cls/\s.cls<=4096/\0<=s.serv/\s.serv<=4096
 len:sp.length<=20
structure LabR (k:Nat) (L:Lab):Prop where
 rdy:0<=L.ready/\L.ready<=8192
 snc: -(12288*(k:Int))<=L.since/\L.since<=4096
 mil:0<=L.she.miles/\L.she.miles<=10000*(k:Int)
theorem I4 {n:Net} {pr f t τ:Int} (hn:netR n) (hm: ∀a∈n.arcs,0<=a.miles/\a.miles<=10000) (hτ:0<=τ/\τ<=1073741824):(0<=(Jf n pr f t τ).1/\(Jf n pr f t τ).1<=1107369984)/\(0<=(Jf n pr f t τ).2.1/\(Jf n pr f t τ).2.1<=10000):=by
 unfold Jf
 split
 ·simp
 ·split
  ·grind
  ·split
   ·rename_i h;have hA:=Uh h;have h1:=K5 (hn.2.2 _ hA).1 hτ;have h2:=Va (t:=τ) (fun p hp=>((hn.2.2 _ hA).2.2 p hp).2.2) _ (Nat.le_refl _);have h3:=(hn.2.2 _ hA).2.1
    grind [D7]
   ·simp
theorem Qn {x t sp k L} (h:TrpOk x t sp) (hl:LabR k L) (b:Bool):0<=ZN t L b/\ZN t L b<=12288:=by
 have:=h.rst;have:=hl.rdy
 grind [ZN]
theorem Bh {k L} (hl:LabR k L) (b:Bool): -(12288*(k:Int))<=Wy L b/\Wy L b<=4096:=by
 have:=hl.snc
 grind [Wy]
theorem Dj {x t sp k L} (h:TrpOk x t sp) (hl:LabR k L) (b:Bool):(0<=(Av x t sp k (ZN t L b)).1/\(Av x t sp k (ZN t L b)).1<=1107369984)/\(0<=(Av x t sp k (ZN t L b)).2.1/\(Av x t sp k (ZN t L b)).2.1<=10000):=by
 have:=Qn h hl b;exact I4 h.net h.mil Za
theorem UI {k d b s} :(Z2 k d b s).miles=s.miles:=by grind [Z2]
theorem EL {k d b s} :(Z2 k d b s).fin=s.fin:=by grind [Z2]
theorem Uo {k d b s} :(Z2 k d b s).times.length=s.times.length:=by grind [Z2,MO]
theorem Dw {x t sp k L b} (h:TrpOk x t sp) (hk:k<=sp.length) (hl:LabR k L) (he:(Xg x t sp k L b).2=0):LabR (k+1) (Xg x t sp k L b).1:=by
 have h1:=Qn h hl b;have h2:=Bh hl b;obtain ⟨h3,h4⟩:=Dj h hl b;have h5:=hl.mil;have h6:=h.opn;have h7:=h.drv;have hm:(Z2 k (ZN t L b) b L.she).miles=L.she.miles:=UI;unfold Xg at he ⊢
 generalize Av x t sp k (ZN t L b)=g at *
 generalize ZN t L b=d at *
 generalize Wy L b=s at *
 generalize Z2 k d b L.she=m at *
 unfold Yw at he ⊢
 split at he
 ·simp at he
 ·rename_i c1;rw [if_neg c1]
  split at he
  ·rename_i c2;rw [if_pos c2]
   split at he
   ·simp at he
   ·rename_i c3;rw [if_neg c3]
    split at he
    ·simp at he
    ·rename_i c4;rw [if_neg c4];exact ⟨by grind,by grind,by grind⟩
  ·rename_i c2;rw [if_neg c2];have h8:=h.stp _ (Zr (show k<sp.length by omega))
   split at he
   ·simp at he
   ·rename_i c3;rw [if_neg c3]
    split at he
    ·simp at he
    ·rename_i c4;rw [if_neg c4];exact ⟨by grind,by grind,by grind⟩
theorem QJ {x t sp k L b} (hl:L.she.times.length=k) (he:(Xg x t sp k L b).2=0) (hk:k<sp.length):(Xg x t sp k L b).1.she.times.length=k+1:=by
 have hm:(Z2 k (ZN t L b) b L.she).times.length=L.she.times.length:=Uo;unfold Xg at he ⊢
 generalize Av x t sp k (ZN t L b)=g at *
 generalize ZN t L b=d at *
 generalize Wy L b=s at *
 generalize Z2 k d b L.she=m at *
 have hk2: ¬k=sp.length:=Za
 unfold Yw at he ⊢
 grind
def Zu (m x:Lab):Bool:=decide (m.ready=x.ready)&&decide (m.since<=x.since)
theorem BK {x t sp k} {m y z:Lab} {b:Bool} (hb:Zu m y=true) (hn:ZS x t sp k y b=some z): ∃u,ZS x t sp k m b=some u/\Zu u z=true:=by
 simp only [Zu,Bool.and_eq_true,decide_eq_true_eq] at hb;obtain ⟨hb1,hb2⟩:=hb
 have hd:ZN t m b=ZN t y b:=by simp [ZN,hb1]
 have hs:Wy m b<=Wy y b:=by grind [Wy]
 unfold ZS at hn ⊢;unfold Xg at hn ⊢;rw [hd]
 generalize Av x t sp k (ZN t y b)=g at *
 generalize ZN t y b=d at *
 generalize Wy y b=s at *
 generalize Wy m b=s2 at *
 generalize Z2 k d b y.she=h1 at *
 generalize Z2 k d b m.she=h2 at *
 unfold Yw at hn ⊢
 by_cases c1:g.2.2=0
 ·by_cases c2:k=sp.length
  ·simp only [c1,c2,not_true,if_true,if_false] at hn ⊢
   by_cases c3:t.cls<g.1
   ·grind
   ·by_cases c4:t.drive<s+g.1-d
    ·grind
    ·have c5: ¬t.drive<s2+g.1-d:=Za
     simp only [c3,c4,if_false,if_true,Option.some.injEq] at hn;subst hn;refine ⟨_,by simp only [c3,c5,if_false,if_true];rfl,?_⟩;simp [Zu];omega
  ·simp only [c1,c2,not_true,if_false] at hn ⊢
   by_cases c3:(nth sp k).cls<max g.1 (nth sp k).opn
   ·grind
   ·by_cases c4:t.drive<s+g.1-d
    ·grind
    ·have c5: ¬t.drive<s2+g.1-d:=Za
     simp only [c3,c4,if_false,if_true,Option.some.injEq] at hn;subst hn;refine ⟨_,by simp only [c3,c5,if_false,if_true];rfl,?_⟩;simp [Zu];omega
 grind
def XM (L:Lab):Int:=L.she.fin
theorem AO {x t sp} {y z:Lab} {b:Bool} (hn:ZS x t sp sp.length y b=some z):z.she.fin=z.ready:=by
 unfold ZS Xg Yw at hn
 grind
theorem JD {x t sp} (ch:Nat->List Bool) (L:Lab):Yp XM none (Wq Zu (ZS x t sp) ch (sp.length+1) 0 [L])=Yp XM none (XP (ZS x t sp) ch (sp.length+1) 0 L):=by
 have h:=Dq XM Zu (ZS x t sp) ch (n:=sp.length+1) (Inv:=fun k y=>k=sp.length+1->y.she.fin=y.ready)
  (fun k y b z _ hn hk=>by
   grind [AO]) (fun k m y b z _ _ hb hn=>BK hb hn)
  (fun m y h1 h2 hb=>by
   simp only [Zu,Bool.and_eq_true,decide_eq_true_eq] at hb
   rw [XM,XM,h1 rfl,h2 rfl];omega) (sp.length+1) 0 [L] Za (fun y _ hk=>Za)
 rw [h];simp
def Yf (r:List Bool) (k:Nat):List Bool:=match r[k]? with | some b=> [b] | none=> [false,true]
theorem Dg (r:List Bool) (n:Nat) (hn:r.length<=n): ∀(j k:Nat),k+j=r.length->Kr (Yf r) (n-k) k=(Xo (List.replicate (n-r.length) false)).map (r.drop k++ ·)
 | 0,k,h=>by
  have hk:k=r.length:=Za
  subst hk;rw [Ap (n:=n) _ _ _ (fun q hq=>by grind [Yf])];simp
 | j+1,k,h=>by
  have e:n-k=(n-(k+1))+1:=Za
  have hlt:k<r.length:=Za
  rw [e,Kr,Dg r n hn j (k+1) Za]
  have:Yf r k= [r[k]]:=by simp [Yf,hlt]
  rw [this,List.flatMap_cons,List.flatMap_nil,List.append_nil,List.map_map,List.drop_eq_getElem_cons hlt]
  rfl
theorem Jv (r:List Bool) (n:Nat) (hn:r.length<=n):Kr (Yf r) n 0=(Xo (List.replicate (n-r.length) false)).map (r++ ·):=by
 have:=Dg r n hn r.length 0 Za
 grind
def XE (r:List Bool) (n:Nat):List (List Bool):=(Xo (List.replicate (n-r.length) false)).map (r++ ·)
def YP (r:List Bool) (n:Nat):List Bool:=r++List.replicate (n-r.length) false
def YH (x:Inst) (t:Typ) (sp:List Stp) (st:Int) (r:List Bool):She×Int :=
 match Yp XM none ((XE r (sp.length+1)).filterMap (Wj (ZS x t sp) 0 (ZU t st))) with
 | some L=>(L.she,0)
 | none=>(zShe,(ZZ x t sp 0 (ZU t st) (YP r (sp.length+1))).2)
theorem Kj {x t sp} {st:Int} {r:List Bool} (hr:r.length<=sp.length+1):YH x t sp st r=match Yp XM none (Wq Zu (ZS x t sp) (Yf r) (sp.length+1) 0 [ZU t st]) with
 | some L=>(L.she,0)
 | none=>(zShe,(ZZ x t sp 0 (ZU t st) (YP r (sp.length+1))).2):=by
 rw [JD,XP,Jv r _ hr];rfl
theorem A1 {x t sp} : ∀(bs:List Bool) (k:Nat) (L:Lab),L.she.times.length=k->k+bs.length=sp.length+1->0<bs.length->(ZZ x t sp k L bs).2=0->(ZZ x t sp k L bs).1.she.times.length=sp.length
 | [],k,L,h1,h2,h3,h=>by simp at h3
 | b::bs,k,L,h1,h2,_,h=>by
  rw [ZZ] at h ⊢
  by_cases h4:(Xg x t sp k L b).2=0
  ·simp only [h4,if_true] at h ⊢
   cases bs with
   | nil =>
    simp at h2;subst h2;rw [ZZ];unfold Xg at h4 ⊢;unfold Yw at h4 ⊢
    split at h4
    ·simp at h4
    ·rename_i c1;rw [if_neg c1];simp only [if_true] at h4 ⊢
     split at h4
     ·simp at h4
     ·rename_i c2;rw [if_neg c2]
      split at h4
      ·simp at h4
      simp_all [if_neg,Uo]
   | cons b2 bs =>
    simp at h2;exact A1 (b2::bs) (k+1) _ (QJ h1 h4 Za) (by simp;omega) Zb h
  grind
theorem bestF_len {x t sp} {st:Int} {r:List Bool} (hr:r.length<=sp.length+1) (h:(YH x t sp st r).2=0):(YH x t sp st r).1.times.length=sp.length:=by
 unfold YH at h ⊢
 cases hf:Yp XM none ((XE r (sp.length+1)).filterMap (Wj (ZS x t sp) 0 (ZU t st))) with
 | none =>
  rw [hf] at h;simp only at h ⊢;exfalso
  have hm:YP r (sp.length+1)∈XE r (sp.length+1):=by
   grind [XE,YP,We]
  have h2:Wj (ZS x t sp) 0 (ZU t st) (YP r (sp.length+1))=some (ZZ x t sp 0 (ZU t st) (YP r (sp.length+1))).1:=by rw [YC,if_pos h]
  have h3:(ZZ x t sp 0 (ZU t st) (YP r (sp.length+1))).1∈(XE r (sp.length+1)).filterMap (Wj (ZS x t sp) 0 (ZU t st)):=List.mem_filterMap.2 ⟨_,hm,h2⟩;generalize (XE r (sp.length+1)).filterMap (Wj (ZS x t sp) 0 (ZU t st))=l at hf h3
  cases l with
  | nil=>simp at h3
  | cons a l =>
   rw [Yp] at hf;obtain ⟨z,e,_⟩:=YY XM l a
   grind
 | some L =>
  simp only;have hm:=fmL_mem _ _ hf;obtain ⟨bs,hbs,hrun⟩:=List.mem_filterMap.1 hm;rw [YC] at hrun
  split at hrun
  ·rename_i h5;simp at hrun;subst hrun;obtain ⟨q,hq,rfl⟩:=List.mem_map.1 hbs;have hql:=fromB_len _ _ hq;simp at hql;exact A1 _ 0 _ rfl (by grind) (by grind) h5
  ·cases hrun
where
 fmL_mem: ∀(l:List Lab) (L:Lab),Yp XM none l=some L->L∈l
 | [],L,h=>by simp [Yp] at h
 | a::l,L,h=>by
  rw [Yp] at h;exact fmL_mem2 l a L h
 fmL_mem2: ∀(l:List Lab) (a L:Lab),Yp XM (some a) l=some L->L∈a::l
 | [],a,L,h=>by grind [Yp]
 | y::l,a,L,h=>by
  rw [Yp] at h
  split at h
  ·have:=fmL_mem2 l y L h;grind
  ·have:=fmL_mem2 l a L h;grind
 fromB_len: ∀(l q:List Bool),q∈Xo l->q.length=l.length
 | [],q,h=>by grind [Xo]
 | b::bs,q,h=>by
  rw [Xo] at h
  split at h
  ·obtain ⟨q',hq,rfl⟩:=List.mem_map.1 h;simp [fromB_len bs q' hq]
  ·rcases List.mem_append.1 h with h | h
   ·obtain ⟨q',hq,rfl⟩:=List.mem_map.1 h;simp [fromB_len bs q' hq]
   ·obtain ⟨q',hq,rfl⟩:=List.mem_map.1 h;simp [fromB_len (List.replicate bs.length false) q' hq]
 termination_by l=>l.length
 decreasing_by all_goals simp
def stopV (x:Inst) (v:Vis):Stp:=if v.drp=true then (nth x.orders v.order.toNat).drp else (nth x.orders v.order.toNat).pick
def Xa (x:Inst) (l:List Vis):List Stp:=l.map (stopV x)
def YS (t:Typ) (s:Int):Bool:=decide (0<=t.skills)&&decide (0<=s)&&(List.range 63).all fun i=> !s.toNat.testBit i||t.skills.toNat.testBit i
def UB (a c:List Int):Bool:=decide (a.length=c.length)&&(List.range a.length).all fun i=>decide (nth a i<=nth c i)
def Qz (x:Inst) (c:List Int) (l:List Vis):Bool:=(List.range (l.length+1)).all fun n=>UB (Ya x l n) c
def ZK (x:Inst) (r:Rte):Typ:=nth x.types r.typ.toNat
def Qq (l:List Vis) (i:Nat):Bool:= !((l.take i).any fun v=>decide (v.order=(nth l i).order))
def VF (k t:Int):Bool:=decide (k≠ -1)&&decide (k≠t)
def chgF (x:Inst) (l:List Vis) (t:Int):Nat->Int×Int
 | 0=>(0,0)
 | n+1=>if Qq l n=true then ((chgF x l t n).1+(if VF (nth x.orders (nth l n).order.toNat).now t=true then 1 else 0),(chgF x l t n).2+(if VF (nth x.orders (nth l n).order.toNat).last t=true then 1 else 0)) else chgF x l t n
def LU (x:Inst) (r:Rte) (s:She):Sco :=
 ⟨(ZK x r).fixed+(ZK x r).perMile*s.miles+(ZK x r).perTick*(s.fin-(ZK x r).opn),(chgF x r.visits r.typ r.visits.length).1,(chgF x r.visits r.typ r.visits.length).2,(s.fin-(ZK x r).opn).tdiv 64*(s.fin-(ZK x r).opn).tdiv 64⟩
def X7 (x:Inst) (r:Rte):Int :=
 if ¬(0<=r.typ/\r.typ<(x.types.length:Int)) then 2
 else if ¬ZX x r.visits=0 then ZX x r.visits
 else if (r.visits.any fun v=> !YS (ZK x r) (nth x.orders v.order.toNat).skills)=true then 18
 else if Qz x (ZK x r).cap r.visits=false then 17
 else if ¬(0<=r.start/\r.start<=4096/\r.rests.length<=r.visits.length+1) then 2
 else 0
def Z4 (x:Inst) (r:Rte):She×Int:=YH x (ZK x r) (Xa x r.visits) r.start r.rests
def ZE (x:Inst) (r:Rte):Int:=if X7 x r=0 then (Z4 x r).2 else X7 x r
def ZO (x:Inst) (r:Rte):She:=if ZE x r=0 then (Z4 x r).1 else zShe
def Ju (x:Inst) (r:Rte):Sco:=if ZE x r=0 then LU x r (Z4 x r).1 else zSco
def inB (x:Inst) (v:Vis):Bool:=decide (0<=v.order)&&decide (v.order<(x.orders.length:Int))
def Fc (x:Inst) (v:Vis):Bool:=inB x v&&decide (0<=(stopV x v).place)
@[go_sem high] theorem iF {k k':IntKind} {a b:Int} :BD false [.p (.int k a),.p (.int k' b)]=some (.int k (max a b)):=by
 grind [BD]
theorem ZH {x:Inst} {l:List Vis} :(Xa x l).length=l.length:=by simp [Xa]
theorem CJ {x:Inst} {l:List Vis} {k:Nat} (h:k<l.length):nth (Xa x l) k=stopV x (nth l k):=by
 grind [Zg,Xa]
structure LdOk (x:Inst):Prop where
 ord:x.orders.length<=10
 typ:x.types.length<=1048576
 dim:1<=dimsOf x.types/\dimsOf x.types<=3
 load: ∀o∈x.orders,(o.load.length:Int)=dimsOf x.types/\ ∀n∈o.load,0<=n/\n<=1000
theorem VL {x:Inst} (h:InstOk x):LdOk x:=by
 have ht:=h.types.1;simp only [rng,decide_eq_true_eq] at ht;have ho:=h.orders
 have h0:0<x.types.length:=Za
 have hcap:=h.types.2 0 h0;unfold DS at hcap;obtain ⟨⟨⟨⟨⟨⟨⟨⟨_,_⟩,_⟩,_⟩,hcap⟩,_⟩,_⟩,_⟩,_⟩:=hcap;simp only [FU,Bool.and_eq_true,decide_eq_true_eq,rng] at hcap;refine ⟨ho.1,Za,Za,fun o hm=> ?_⟩;obtain ⟨i,hi,rfl⟩:=List.mem_iff_getElem.1 hm;have:=(ho.2 i hi).load;rw [Zg hi] at this
 simp_all [loadOk,rng]
def MD (l:List Int):PV:= .list false (l.map eI)
@[go_sem] theorem NP (l:List Int):MD l= .list false (l.map eI):=Eq.trans rfl rfl
def WO (x:Inst) (l:List Vis):List (List Int):=(List.range (l.length+1)).map (Ya x l)
def CC (c m o w:Int):AM.Obj:= .cells [.p (.int .i64 c),.p (.int .i64 m),.p (.int .i64 o),.p (.int .i64 w)]
theorem Af {x:Inst} {l:List Vis} {t:Int} : ∀n:Nat,(0<=(chgF x l t n).1/\(chgF x l t n).1<=n)/\(0<=(chgF x l t n).2/\(chgF x l t n).2<=n)
 | 0=>by simp [chgF]
 | n+1=>by
  have ih:=Af (x:=x) (l:=l) (t:=t) n
  grind [chgF]
theorem SqOk.len {x:Inst} {l:List Vis} (h:SqOk x l) (hn:x.orders.length<=10):l.length<=20:=by
 have h1:=List.Nodup.length_le_of_subset (l₁ :=l) (l₂ :=(List.range 10).flatMap fun i:Nat=> [(⟨(i:Int),false⟩:Vis),⟨(i:Int),true⟩]) h.nd (fun v hv=>by
  obtain ⟨v1,v2⟩:=h.inr v hv;rw [List.mem_flatMap];refine ⟨v.order.toNat,List.mem_range.2 Za,?_⟩;obtain ⟨o,d⟩:=v
  have e:((o.toNat:Nat):Int)=o:=by grind
  simp_all)
 have h2:((List.range 10).flatMap fun i:Nat=> [(⟨(i:Int),false⟩:Vis),⟨(i:Int),true⟩]).length=20:=rfl;omega
theorem SqOk.vis {x:Inst} {l:List Vis} (h:SqOk x l) {v:Vis} (hv:v∈l):Fc x v=true:=by
 obtain ⟨v1,v2⟩:=h.inr v hv;obtain ⟨i,hi⟩: ∃i:Nat,v.order=(i:Int):=⟨v.order.toNat,Za⟩;have ho:=h.own (i:=i) ⟨v,hv,hi⟩
 have hpl:0<=(stopV x v).place:=by
  unfold stopV;rw [hi,Int.toNat_natCast]
  cases hd:v.drp with
  | true=>exact ho.isD (by rw [<- hi,<- hd];exact hv)
  | false=>exact ho.isP (by rw [<- hi,<- hd];exact hv)
 simp [Fc,inB,v1,v2,hpl]
theorem Ln {n:Net} (h:netOk n):netR n/\ ∀a∈n.arcs,0<=a.miles/\a.miles<=10000:=by
 obtain ⟨⟨⟨h1,_⟩,h2⟩,h3⟩:=h
 have ha: ∀a∈n.arcs,Ni a/\0<=a.miles/\a.miles<=10000:=fun a hm=>by
  obtain ⟨i,hi,rfl⟩:=List.mem_iff_getElem.1 hm;have:=h3 i hi;unfold CZ at this;rw [Zg hi] at this;obtain ⟨⟨⟨⟨⟨_,g1⟩,_⟩,g2⟩,g3⟩,g4⟩:=this;refine ⟨⟨g2,g3,fun p hp=> ?_⟩,g1.2.2.1,g1.2.2.2.1⟩;obtain ⟨j,hj,rfl⟩:=List.mem_iff_getElem.1 hp
  simp_all [KM,Zg,Rb,rng]
 exact ⟨⟨Za,Za,fun a hm=>(ha a hm).1⟩,fun a hm=>(ha a hm).2⟩
theorem Bo {x:Inst} (hx:InstOk x) {i:Nat} (hi:i<x.types.length):(0<=(nth x.types i).opn/\(nth x.types i).opn<=(nth x.types i).cls/\(nth x.types i).cls<=4096)/\(1<=(nth x.types i).drive/\(nth x.types i).drive<=4096)/\(0<=(nth x.types i).rest/\(nth x.types i).rest<=4096) /\
  (0<=(nth x.types i).fixed/\(nth x.types i).fixed<=100000/\0<=(nth x.types i).perMile/\(nth x.types i).perMile<=100/\0<=(nth x.types i).perTick/\(nth x.types i).perTick<=100)/\(0<=(nth x.types i).skills/\(nth x.types i).skills<=1073741823):=by
 have ht:=hx.types.2 i hi
 simp_all [DS,rng]
theorem Y5 {x:Inst} {r:Rte} (hx:InstOk x) (ht:0<=r.typ/\r.typ<(x.types.length:Int)) (h:SqOk x r.visits):TrpOk x (ZK x r) (Xa x r.visits):=by
 have hti:r.typ.toNat<x.types.length:=Za
 obtain ⟨t1,t2,t3,_⟩:=Bo hx hti;obtain ⟨n1,n2⟩:=Ln hx.net;refine ⟨n1,n2,t1,t2,t3,fun s hs=> ?_,by rw [ZH];exact h.len hx.orders.1⟩;obtain ⟨v,hv,rfl⟩:=List.mem_map.1 hs;obtain ⟨v1,v2⟩:=h.inr v hv
 have hi:v.order.toNat<x.orders.length:=Za
 have ho:=hx.orders.2 _ hi;have hvis:=h.vis hv;have hp:=ho.pstp;have hd:=ho.dstp;simp only [stpOk,decide_eq_true_eq] at hp hd;simp only [Fc,Bool.and_eq_true,decide_eq_true_eq] at hvis;have h3:=hvis.2;unfold stopV at h3 ⊢
 grind
theorem A2 {x t sp} (h:TrpOk x t sp): ∀(bs:List Bool) (k:Nat) (L:Lab),k+bs.length=sp.length+1->LabR k L->(ZZ x t sp k L bs).2=0->LabR (sp.length+1) (ZZ x t sp k L bs).1/\(bs≠ []->(ZZ x t sp k L bs).1.she.fin=(ZZ x t sp k L bs).1.ready)
 | [],k,L,hk,hl,h0=>by
  simp at hk;subst hk;exact ⟨hl,fun h=>absurd rfl h⟩
 | b::bs,k,L,hk,hl,h0=>by
  simp at hk;rw [ZZ] at h0 ⊢
  split at h0
  ·rename_i c;rw [if_pos c];obtain ⟨h1,h2⟩:=A2 h bs (k+1) _ Za (Dw h Za hl c) h0;refine ⟨h1,fun _=> ?_⟩
   cases bs with
   | nil =>
    simp at hk;subst hk;exact AO (x:=x) (t:=t) (sp:=sp) (y:=L) (b:=b) (by rw [ZS,if_pos c];rfl)
   | cons b2 bs=>grind
  omega
theorem Ac {x t sp} {st:Int} {r:List Bool} (h:TrpOk x t sp) (hs:0<=st/\st<=4096) (hr:r.length<=sp.length+1) (h0:(YH x t sp st r).2=0):(0<=(YH x t sp st r).1.fin/\(YH x t sp st r).1.fin<=8192)/\(0<=(YH x t sp st r).1.miles/\(YH x t sp st r).1.miles<=210000):=by
 have hL0:LabR 0 (ZU t st):=⟨by have:=h.opn;grind [ZU],by simp [ZU],by simp [ZU,zShe]⟩;have hl:=h.len
 have key: ∀bs∈XE r (sp.length+1),(ZZ x t sp 0 (ZU t st) bs).2=0->(0<=(ZZ x t sp 0 (ZU t st) bs).1.she.fin/\(ZZ x t sp 0 (ZU t st) bs).1.she.fin<=8192)/\(0<=(ZZ x t sp 0 (ZU t st) bs).1.she.miles/\(ZZ x t sp 0 (ZU t st) bs).1.she.miles<=210000):=fun bs hbs he=>by
  obtain ⟨q,hq,rfl⟩:=List.mem_map.1 hbs;have hql:=bestF_len.fromB_len _ _ hq;simp at hql
  have hne:r++q≠ []:=fun e=>by
   simp_all
  obtain ⟨g1,g2⟩:=A2 h (r++q) 0 _ (by simp;omega) hL0 he;rw [g2 hne];have:=g1.rdy;have:=g1.mil;omega
 unfold YH at h0 ⊢
 cases hf:Yp XM none ((XE r (sp.length+1)).filterMap (Wj (ZS x t sp) 0 (ZU t st))) with
 | some L =>
  simp only;have:=bestF_len.fmL_mem _ _ hf
  grind [YC]
 | none =>
  grind [zShe]
theorem Uy {g:FuncId} {args:List V} {a b c:PV} {H:List AM.Obj} {K:V->List AM.Obj->Prop} (h:ACalls Tryz.prog g args [] fun x H'=>x= .tup [.p a,.p b,.p c]/\H'= []) (k:K (.tup [.p a,.p b,.p c]) H) (ha:Zy 0 args=true:=by rfl):ACalls Tryz.prog g args H K:=MU h k ha
def An (x:Inst) (r:Rte):V:= .tup [.p (BS (ZO x r)),.p (IU (Ju x r)),.p (.int .i64 (ZE x r))]
theorem Yo {x:Inst} {r:Rte} {e:Int} (h:ZE x r=e) (h0:e≠0):An x r= .tup [.p (BS zShe),.p (IU zSco),.p (.int .i64 e)]:=by
 simp_all [An,ZO,Ju]
theorem VY {l:List Pt} (hl:YB l) {k:Nat} (hk:k<l.length): ∀j,j<k->(nth l j).t<(nth l k).t:=by
 obtain ⟨_,hpt⟩:=hl
 induction k with
 | zero=>omega
 | succ k ih =>
  intro j hj;obtain ⟨_,q⟩:=hpt (k+1) hk
  grind
theorem LI {l:List Pt} (hl:YB l) (t:Int): ∃i,PosT l t i:=by
 have: ∀n,n<=l.length-> ∃i,i<=n/\(∀j,j<i->(nth l j).t<t)/\(i<n->t<=(nth l i).t):=by
  intro n
  induction n with
  | zero=>simp
  | succ n ih =>
   grind
 obtain ⟨i,h1,h2,h3⟩:=this l.length (Nat.le_refl _);refine ⟨i,h1,h2,fun j hj hjl=> ?_⟩;rcases Nat.lt_or_eq_of_le hj with h | h
 ·have:=VY hl hjl i h;omega
 grind
theorem Ik {l:List Pt} {t:Int} {i:Nat} (hl:YB l) (h:PosT l t i) (hi:i<l.length) (e:(nth l i).t=t):WG l t=(nth l i).a:=by
 by_cases g:i+1<l.length
 ·have m:=VY hl g i Za;rw [C1 g (fun j hj=> ?_) (by grind [V3]),KL]
  ·rw [e,Int.sub_self,Int.zero_mul,Int.zero_add];rw [Int.ediv_eq_zero_of_lt Za Za];omega
  ·have:(nth l (j+1)).t<=t:=by
    rcases Nat.lt_or_eq_of_le (show j+1<=i by omega) with h1 | h1
    ·have:=h.lo _ h1;omega
    grind
   simp [V3];omega
 ·have hi1:i=l.length-1:=Za
  rw [Kf (fun j hj=> ?_)]
  ·split
   ·grind
   ·have:i=0:=by
     by_cases g2:i=0
     ·exact g2
     ·have:=h.lo 0 Za;omega
    grind
  ·have:(nth l (j+1)).t<=t:=by
    rcases Nat.lt_or_eq_of_le (show j+1<=i by omega) with h1 | h1
    ·have:=h.lo _ h1;omega
    grind
   simp [V3];omega
theorem Io {l:List Pt} {t:Int} (hl:YB l) (h:PosT l t 0) (e: ¬(nth l 0).t=t):WG l t=t+(nth l 0).a-(nth l 0).t:=by
 have h0:=h.hi 0 (Nat.le_refl _) hl.1.1;rw [Kf (fun j hj=> ?_),if_neg Za]
 have:t<(nth l j).t:=by
  by_cases g:j=0
  ·grind
  ·have:=VY hl (show j<l.length by omega) 0 Za;omega
 simp [V3];omega
theorem Im {l:List Pt} {t:Int} (h:PosT l t l.length) (hl:0<l.length):WG l t=t+(nth l (l.length-1)).a-(nth l (l.length-1)).t:=by
 rw [Kf (fun j hj=> ?_),if_pos (h.lo 0 hl)];have:=h.lo (j+1) hj;simp [V3];omega
theorem FJ {l:List Pt} {t:Int} {i:Nat} (h:PosT l t i) (h0:0<i) (hi:i<l.length) (e: ¬(nth l i).t=t):WG l t=KL (nth l (i-1)) (nth l i) t:=by
 have e1:i-1+1=i:=Za
 have h1:=h.lo (i-1) Za;have h2:=h.hi i (Nat.le_refl _) hi;have:=C1 (l:=l) (t:=t) (i:=i-1) Za (fun j hj=>by have:=h.lo (j+1) Za;simp [V3];omega) (by grind [V3]);rw [this,e1]
theorem JZ {p q:Pt} {t:Int} (h1:p.t<=t) (h2:t<q.t) (hp:0<=p.t) (hq:q.t<=4096) (ha:p.a<=q.a) (hpa:0<=p.a) (hqa:q.a<=8192) :
  IntKind.i64.wrap (p.a+IntKind.i64.wrap ((IntKind.i64.wrap (IntKind.i64.wrap (IntKind.i64.wrap ((t-p.t)*(q.a-p.a))+(q.t-p.t))-1)).tdiv (q.t-p.t)))=KL p q t:=by
 have hm:=A9 h1 h2 hp hq ha hpa hqa;unfold KL;generalize hM:(t-p.t)*(q.a-p.a)=m at hm
 have hd:0<=(m+(q.t-p.t)-1) / (q.t-p.t)/\(m+(q.t-p.t)-1) / (q.t-p.t)<=m+(q.t-p.t)-1:=by
  refine ⟨Int.ediv_nonneg Za Za,Int.ediv_le_self _ Za⟩
 rw [IntWalk.i64_in m Za,IntWalk.i64_in (m+(q.t-p.t)) Za,IntWalk.i64_in (m+(q.t-p.t)-1) Za,Int.tdiv_eq_ediv_of_nonneg Za,IntWalk.i64_in ((m+(q.t-p.t)-1) / (q.t-p.t)) Za,IntWalk.i64_in _ Za]
 congr 2
 omega
theorem Ck (l:List Pt) (c:Bool) (t:Int) (hl:YB l) (ht:0<=t/\t<=1073741824):PC 251 [.p (.list c (l.map Er)),.p (.int .i64 t)] (.int .i64 (WG l t)):=by
 obtain ⟨i,hi⟩:=LI hl t;have hl':=hl;obtain ⟨⟨hl1,hl2⟩,hpt⟩:=hl';refine Zd Tryz.func251 rfl Pi ?_;simp (disch:=omega) only [Tryz.f251,go_sem,seval];refine ZV (aY l c t i hl ht hi) (Zk ?_);obtain ⟨i1,i2,i3⟩:=id hi;refine cD ?_ ?_<;>intro h<;>simp (disch:=omega) only [Sh.out h,go_sem,seval,↓reduceIte]
 ·grind [Ik]
 ·refine cD ?_ ?_<;>intro h0<;>simp (disch:=omega) only [Sh.out h0,go_sem,seval]
  ·have:i=0:=Za
   subst this;obtain ⟨p1,p2⟩:=hpt 0 Za;rw [Io hl hi (fun g=>h ⟨Za,g⟩)];refine Wv ?_;simp (disch:=omega) only [go_sem,seval,↓reduceIte]
  ·refine cD ?_ ?_<;>intro h1<;>simp (disch:=omega) only [Sh.out h1,go_sem,seval]
   ·have:i=l.length:=Za
    subst this;obtain ⟨p1,p2⟩:=hpt (l.length-1) Za;rw [Im hi Za]
    have e1:((l.length:Int)-1).toNat=l.length-1:=Za
    refine Wv ?_;simp (disch:=omega) only [go_sem,seval,↓reduceIte]
   ·have g1:i<l.length:=Za
    rw [FJ hi Za g1 (fun g=>h ⟨g1,g⟩)];have g2:=VY hl g1 (i-1) Za;obtain ⟨p1,p2⟩:=hpt i g1;obtain ⟨p3,p4⟩:=hpt (i-1) Za
    have e1:((i:Int)-1).toNat=i-1:=Za
    have q1:=i2 (i-1) Za;have q2:=i3 i (Nat.le_refl _) g1;have q3: ¬(nth l i).t=t:=fun g=>h ⟨g1,g⟩;have q4:=p2 Za;refine Qg [9,10,11] 12 mixed Zh Zh Zh Zb ?_;simp (disch:=omega) only [e1,go_sem,seval];refine EF 9 10 _ _ _ _ Zh (by refine Zk ?_;exact ⟨rfl,rfl⟩) (by refine Zk ?_;exact ⟨rfl,rfl⟩) ?_ ?_
    ·refine Y0 10 _ _ Zh (by refine Zk ?_;exact ⟨rfl,rfl⟩) (Y0 11 _ _ Zh (by refine Zk ?_;exact ⟨rfl,rfl⟩) (Kv ?_));refine Zk ?_;refine Wv (Zk ?_);exact congrArg (fun z=>V.p (PV.int IntKind.i64 z)) (JZ Za Za Za Za Za Za Za)
    ·refine Y0 9 _ _ Zh (by refine Zk ?_;exact ⟨rfl,rfl⟩) (Y0 11 _ _ Zh (by refine Zk ?_;exact ⟨rfl,rfl⟩) (Kv ?_));refine Zk ?_;refine Wv (Zk ?_);exact congrArg (fun z=>V.p (PV.int IntKind.i64 z)) (JZ Za Za Za Za Za Za Za)
theorem EW (l:List Pt) (c:Bool) (t:Int) (hl:YB l) (ht:0<=t/\t<=1073741824):PC 248 [.p (.list c (l.map Er)),.p (.int .i64 t)] (.int .i64 (WG l t)):=by
 refine Zd Tryz.func248 rfl Pf ?_;simp (disch:=omega) only [Tryz.f248,go_sem,seval];refine (Bq t 0 1073741824).use (Zk ?_);simp (disch:=omega) only [ht,go_sem,seval];refine (LL l c hl).use (Zk ?_);refine (Ck l c t hl ht).use ?_;simp (disch:=omega) only [go_sem,seval]
theorem AV (n:Net) (p:Int) (hn:n.places.length<=1048576):PC 244 [.p (IT n),.p (.int .i64 p)] (.bool (QQ n p)):=by
 refine Zd Tryz.func244 rfl Pb ?_;simp (disch:=omega) only [Tryz.f244,go_sem,seval];refine gT ?_ ?_<;>intro h<;>simp (disch:=omega) only [Sh.out h,go_sem,seval,↓reduceIte]
 ·simp [QQ,h]
 ·simp [QQ,h]
theorem Mf (a:Arc):PC 247 [.p (VD a)] (.agg [.int .i64 a.src,.int .i64 a.dst,.int .i64 a.prof]):=by
 refine Zd Tryz.func247 rfl Pe ?_;simp (disch:=omega) only [Tryz.f247,go_sem,seval,↓reduceIte]
theorem Lx (a:Arc) (t:Int) (ha:Ni a) (ht:0<=t/\t<=1073741824):PC 246 [.p (VD a),.p (.int .i64 t)] (.int .i64 (D7 a t)):=by
 obtain ⟨h1,h2,h3⟩:=ha;have hr:=K5 h1 ht;have hs:=Va (t:=t) (fun p hp=>(h3 p hp).2.2);refine Zd Tryz.func246 rfl Pd ?_;simp (disch:=omega) only [Tryz.f246,go_sem,seval];refine (EW a.travel a.travel_c t h1 ht).use (Zk ?_);refine Zo [1,13,14] (fun k:Nat=> [(5,.p (.int .i64 (WG a.travel t+Vk a.slow t k))),(15,.p (.int .i64 k))]) (fun _=> [D6 a]) (fun k=>k<=a.slow.length) (fun k=>a.slow.length-k) 0 Zb (Weak.mk ?_) ?_
 ·simp (disch:=omega) only [D6,Vk,List.foldl_nil,go_sem,seval];simp
 ·intro k hk;have hsk:=hs k hk;simp (disch:=omega) only [D6,go_sem,seval];refine cD ?_ ?_<;>intro h<;>simp (disch:=omega) only [Sh.out h,go_sem,seval,↓reduceIte]
  ·have hk2:k<a.slow.length:=Za
   have hp:=h3 _ (Zr hk2);have hsn:=Q0 (t:=t) hk2;refine YE ?_ ?_<;>intro h4
   ·rw [if_pos h4] at hsn;exact ⟨k+1,Za,Za,Weak.mk (by simp (disch:=omega) only [hsn,Int.add_assoc,go_sem,seval])⟩
   ·rw [if_neg h4] at hsn;exact ⟨k+1,Za,Za,Weak.mk (by simp (disch:=omega) only [hsn,go_sem,seval])⟩
  grind [D7]
theorem LA (n:Net) (pr f t:Int) (hn:n.arcs.length<=1048576):PT 245 [.p (IT n),.p (.int .i64 pr),.p (.int .i64 f),.p (.int .i64 t)] [.p (VD (Yg n pr f t).1),.p (.bool (Yg n pr f t).2)]:=by
 refine Ze [] Tryz.func245 rfl Pc ?_;simp (disch:=omega) only [Tryz.f245,go_sem,seval];refine Zo [8,10,18,19] (fun k:Nat=> [(20,.p (.int .i64 k))]) (fun _=>Pv n++ [D6 Vc,.cells [.p (.int .i64 f),.p (.int .i64 t),.p (.int .i64 pr)]]) (fun k=>k<=n.arcs.length/\ ∀j,j<k->Wo pr f t (nth n.arcs j)=false) (fun k=>n.arcs.length-k) 0 Zb (Weak.mk ?_) ?_
 ·simp (disch:=omega) only [Pv,D6,Vc,List.map_nil,List.cons_append,List.nil_append,go_sem,seval]
 ·rintro k ⟨hk,hno⟩;simp (disch:=omega) only [Pv,D6,Vc,List.map_nil,List.cons_append,List.nil_append,go_sem,seval];refine cD ?_ ?_<;>intro h<;>simp (disch:=omega) only [Sh.out h,go_sem,seval,↓reduceIte]
  ·have hk2:k<n.arcs.length:=Za
   have nx:Wo pr f t (nth n.arcs k)=false-> ∀j,j<k+1->Wo pr f t (nth n.arcs j)=false:=fun h=>ZL.2 ⟨hno,h⟩;refine Wv (Zk ?_);refine Xn (Mf (nth n.arcs k)) (Zk ?_);refine YE ?_ ?_<;>intro h1
   ·have e:=Ga hk2 hno (by simp [Wo,h1]);obtain ⟨rfl,rfl,rfl⟩:=h1;rw [e];exact we
   ·have e2:Wo pr f t (nth n.arcs k)=false:=by
     simp_all [Wo]
    exact ⟨k+1,⟨Za,nx e2⟩,Za,wk⟩
  ·have hkn:k=n.arcs.length:=Za
   subst hkn;rw [Gb hno];exact we (by simp (disch:=omega) only [Vc,List.map_nil,go_sem,seval])
theorem dZ (n:Net) (pr f t τ:Int) (hn:netR n) (hτ:0<=τ/\τ<=1073741824):PT 236 [.p (IT n),.p (.int .i64 pr),.p (.int .i64 f),.p (.int .i64 t),.p (.int .i64 τ)] [.p (.int .i64 (Jf n pr f t τ).1),.p (.int .i64 (Jf n pr f t τ).2.1),.p (.int .i64 (Jf n pr f t τ).2.2)]:=by
 refine Ze [] Tryz.func236 rfl O7 ?_;simp (disch:=omega) only [Tryz.f236,go_sem,seval];refine (AV n f hn.1).use (Zk ?_);refine gF ?_ ?_<;>intro h1<;>simp (disch:=omega) only [Sh.out h1,go_sem,seval,↓reduceIte]
 ·have e:Jf n pr f t τ=(0,0,11):=by grind [Jf]
  rw [e];exact we
 ·simp only [Bool.not_eq_false'] at h1;refine (AV n t hn.1).use (Zk ?_);refine cD ?_ ?_<;>intro h2<;>simp (disch:=omega) only [Sh.out h2,go_sem,seval]
  ·have e:Jf n pr f t τ=(0,0,11):=by grind [Jf]
   rw [e];exact we
  ·simp only [Bool.not_eq_false'] at h2;refine cD ?_ ?_<;>intro h3<;>simp (disch:=omega) only [Sh.out h3,go_sem,seval,↓reduceIte]
   ·have e:Jf n pr f t τ=(τ,0,0):=by grind [Jf]
    rw [e];exact we
   ·have cf:=LA n pr f t hn.2.1;have hm:= @Uh n pr f t
    have e0:Jf n pr f t τ=if (Yg n pr f t).2=true then (D7 (Yg n pr f t).1 τ,(Yg n pr f t).1.miles,0) else (0,0,12):=by grind [Jf]
    rw [e0];generalize Yg n pr f t=A at cf hm ⊢;obtain ⟨a,b⟩:=A;simp only at cf hm ⊢;refine ZV cf (Zk ?_);refine cD ?_ ?_<;>intro h4<;>simp (disch:=omega) only [Sh.out h4,go_sem,seval]
    ·have hb:b=false:=by grind
     subst hb;exact we (by simp (disch:=omega) only [go_sem,seval,↓reduceIte])
    ·have hb:b=true:=by grind
     subst hb;refine Wv (Zk ?_);refine Xn (Lx a τ (hn.2.2 a (hm rfl)) hτ) (Zk ?_);exact we
def BL (s:Stp) (a:Int):Int×Int:=if max a s.opn>s.cls then (0,14) else (max a s.opn,0)
theorem ID (s:Stp) (a:Int):PT 238 [.p (BT s),.p (.int .i64 a)] [.p (.int .i64 (BL s a).1),.p (.int .i64 (BL s a).2)]:=by
 refine Ze [] Tryz.func238 rfl O9 ?_;simp (disch:=omega) only [Tryz.f238,go_sem,seval];refine cD ?_ ?_<;>intro h<;>simp (disch:=omega) only [Sh.out h,go_sem,seval]
 ·have e:BL s a=(0,14):=by simp_all [BL]
  rw [e];exact we
 ·have e:BL s a=(max a s.opn,0):=by simp_all [BL]
  rw [e];exact we
theorem Hh (l:List Ord) (c:Bool) (p:Int) (hl:l.length<=1048576):PC 117 [.p (.list c (l.map VE)),.p (.int .i64 p)] (.bool (decide (0<=p)&&decide (p<(l.length:Int)))):=by
 refine Zd Tryz.func117 rfl Gw ?_;simp (disch:=omega) only [Tryz.f117,go_sem,seval];refine gT ?_ ?_<;>intro h<;>simp (disch:=omega) only [Sh.out h,go_sem,seval,↓reduceIte]
 all_goals simp [h]
theorem KE (x:Inst) (v:Vis) (ho:x.orders.length<=1048576) (hv:inB x v=true) (hp:0<=(stopV x v).place):PT 73 [.p (.list x.orders_c (x.orders.map VE)),.p (Z9 v)] [.p (BT (stopV x v)),.p (.int .i64 0)]:=by
 refine Ze [] Tryz.func73 rfl cS ?_;simp (disch:=omega) only [Tryz.f73,go_sem,seval];have hv':=hv;rw [inB] at hv';have ct:=Hh x.orders x.orders_c v.order ho;rw [hv'] at ct;refine ct.use ?_;simp only [Bool.and_eq_true,decide_eq_true_eq] at hv';obtain ⟨h1,h2⟩:=hv'
 have hi:v.order.toNat<x.orders.length:=Za
 refine Zk ?_;refine cD ?_ ?_<;>intro hd<;>simp (disch:=omega) only [Sh.out hd,go_sem,seval,↓reduceIte]
 ·have e:stopV x v=(nth x.orders v.order.toNat).drp:=by simp [stopV,hd]
  rw [e] at hp ⊢
  have e3: ¬(nth x.orders v.order.toNat).drp.place<0:=Za
  simp (disch:=omega) only [e3,go_sem,seval];exact we
 ·have e:stopV x v=(nth x.orders v.order.toNat).pick:=by simp [stopV,hd]
  rw [e] at hp ⊢
  have e3: ¬(nth x.orders v.order.toNat).pick.place<0:=Za
  simp (disch:=omega) only [e3,go_sem,seval];exact we
theorem Lz (l:List Typ) (c:Bool) (ht:l.length<=1048576):PC 160 [.p (.list c (l.map Je))] (.int .i64 (dimsOf l)):=by
 refine Zd Tryz.func160 rfl Oo ?_;simp (disch:=omega) only [Tryz.f160,go_sem,seval];refine cD ?_ ?_<;>intro h1<;>simp (disch:=omega) only [Sh.out h1,go_sem,seval,↓reduceIte]
 ·grind [dimsOf]
 simp_all [dimsOf]
theorem LB (a b:List Int) (c d:Bool) (ha:a.length<=1048576) (hb:b.length<=1048576):PC 190 [.p (.list c (a.map eI)),.p (.list d (b.map eI))] (.bool (UB a b)):=by
 refine Zd Tryz.func190 rfl OI ?_;simp (disch:=omega) only [Tryz.f190,go_sem,seval];refine cD ?_ ?_<;>intro h1<;>simp (disch:=omega) only [Sh.out h1,go_sem,seval]
 ·grind [UB]
 ·have h1':a.length=b.length:=Za
  refine Zo [1,12,13] (fun k:Nat=> [(14,.p (.int .i64 k))]) (fun _=> []) (fun k=>k<=a.length/\ ∀j,j<k->nth a j<=nth b j) (fun k=>a.length-k) 0 Zb (Weak.mk ?_) ?_
  ·simp (disch:=omega) only [go_sem,seval]
  ·rintro k ⟨hk,hno⟩;refine Zk ?_;refine cD ?_ ?_<;>intro h2<;>simp (disch:=omega) only [Sh.out h2,go_sem,seval,↓reduceIte]
   ·have hk2:k<a.length:=Za
    refine YE ?_ ?_<;>intro h3
    ·grind [UB]
    ·exact ⟨k+1,⟨Za,ZL.2 ⟨hno,Za⟩⟩,Za,wk⟩
   ·have hkl:k=a.length:=Za
    simp_all [UB]
theorem Lw (t:Typ) (s:Int) (h1:t.skills<9223372036854775808) (h2:s<9223372036854775808):PC 187 [.p (Je t),.p (.int .i64 s)] (.bool (YS t s)):=by
 refine Zd Tryz.func187 rfl OF ?_;simp (disch:=omega) only [Tryz.f187,go_sem,seval];refine gT ?_ ?_<;>intro c1<;>simp (disch:=omega) only [Sh.out c1,go_sem,seval,↓reduceIte]
 ·refine gT ?_ ?_<;>intro c2<;>simp (disch:=omega) only [Sh.out c2,go_sem,seval,↓reduceIte]
  ·obtain ⟨M,hM⟩: ∃M:Nat,t.skills=(M:Int):=⟨t.skills.toNat,Za⟩;obtain ⟨S,rfl⟩: ∃S:Nat,s=(S:Int):=⟨s.toNat,Za⟩;have hb:=K2 (S:=S) (M:=M) Za
   have e:YS t (S:Int)=(List.range 63).all fun i=> !S.testBit i||M.testBit i:=by
    simp_all [YS]
   have hd:decide (IntKind.i64.wrap ((BitVec.ofInt 64 (S:Int)&&& ~~~BitVec.ofInt 64 (M:Int)).toNat:Int)=0)=((List.range 63).all fun i=> !S.testBit i||M.testBit i):=by
    grind
   rw [e,hM];exact congrArg (fun b=>V.p (PV.bool b)) hd
  grind [YS]
 grind [YS]
theorem PH (a b:Int) (h: -1073741824<=a/\a<=1073741824/\ -1073741824<=b/\b<=1073741824):PC 198 [.p (.int .i64 a),.p (.int .i64 b)] (.int .i64 (a+b)):=by
 refine Zd Tryz.func198 rfl OP ?_;simp (disch:=omega) only [Tryz.f198,go_sem,seval]
theorem Lh (a b:Int) (h: -1073741824<=a/\a<=1073741824/\ -1073741824<=b/\b<=1073741824):PC 199 [.p (.int .i64 a),.p (.int .i64 b)] (.int .i64 (a-b)):=by
 refine Zd Tryz.func199 rfl OQ ?_;simp (disch:=omega) only [Tryz.f199,go_sem,seval]
def Fo (f:Nat->Int) (n k:Nat):List Int:=(List.range n).map fun j=>if j<k then f j else 0
theorem Lj {f:Nat->Int} {n k:Nat} :(Fo f n k).length=n:=by simp [Fo]
theorem GS {f:Nat->Int} {n:Nat} :Fo f n 0=List.replicate n 0:=by
 apply List.ext_getElem (by simp [Fo]);grind [Fo]
theorem GR {f:Nat->Int} {n:Nat} :Fo f n n=(List.range n).map f:=by
 simp_all [Fo]
theorem Lk {f:Nat->Int} {n k:Nat} (h:k<n):(Fo f n k).set k (f k)=Fo f n (k+1):=by
 apply List.ext_getElem (by simp [Fo]);grind [Fo]
theorem Js (a b:List Int) (c d:Bool) (g:FuncId) (f:Int->Int->Int) (hl:a.length=b.length) (ha:a.length<=1048576)
  (hf: ∀j,j<a.length->ACalls Tryz.prog g [.p (.int .i64 (nth a j)),.p (.int .i64 (nth b j))] [] fun x H'=>x= .p (.int .i64 (f (nth a j) (nth b j)))/\H'= []) :
  PT 197 [.p (.list c (a.map eI)),.p (.list d (b.map eI)),.fn (.func g) [] []] [.p (.list false (((List.range a.length).map fun j=>f (nth a j) (nth b j)).map eI)),.p (.int .i64 0)]:=by
 refine Ze [9] Tryz.func197 rfl OO ?_;simp (disch:=omega) only [Tryz.f197,go_sem,seval];refine cD ?_ ?_<;>intro h0<;>simp (disch:=omega) only [Sh.out h0,go_sem,seval]
 ·omega
 ·have hz:=GS (f:=fun j=>f (nth a j) (nth b j)) (n:=a.length);have hml:=fun k=>Lj (f:=fun j=>f (nth a j) (nth b j)) (n:=a.length) (k:=k);refine ZR [9] [0,1,2,8,19] (fun k:Nat=> [(20,.p (.int .i64 k))]) (fun k=> [.elems 1 ((Fo (fun j=>f (nth a j) (nth b j)) a.length k).map eI)]) (fun k=>k<=a.length) (fun k=>a.length-k) 0 Zb (Weak.mk ?_) ?_
  ·simp (disch:=omega) only [hz,go_sem,seval];rw [List.map_replicate];rfl
  ·intro k hk;refine Zk ?_;refine cD ?_ ?_<;>intro h1<;>simp (disch:=omega) only [Sh.out h1,go_sem,seval,↓reduceIte]
   ·have hk2:k<a.length:=Za
    have hs:=Lk (f:=fun j=>f (nth a j) (nth b j)) (n:=a.length) hk2;have hk3:=hml k;refine Z7 12 mixed Zh Zh ?_;refine Zk ?_;refine Xn (hf k hk2) ?_;refine Zk ?_;simp (disch:=first | omega | (simp only [List.length_cons,List.length_nil,List.length_append,List.length_map,List.length_take,List.length_drop]<;>omega)) only [go_sem,seval,↓reduceIte];refine ⟨k+1,Za,Za,Weak.mk ?_⟩;simp (disch:=omega) only [<- hs,go_sem,seval];rw [List.map_set];rfl
   ·have hkl:k=a.length:=Za
    subst hkl;rw [<- GR];have hk3:=hml a.length;refine Zp (Weak.fz (o:=0) (by rfl)) ?_;refine Zc [] _ _ _ _ ?_;simp (disch:=omega) only [List.map_cons,List.map_nil,List.set_cons_zero,go_sem,seval];rw [if_pos hk3];exact we
theorem Hb (a b:List Int) (c d:Bool) (hl:a.length=b.length) (ha:a.length<=1048576) (h: ∀j,j<a.length-> -1073741824<=nth a j/\nth a j<=1073741824/\ -1073741824<=nth b j/\nth b j<=1073741824):PT 161 [.p (.list c (a.map eI)),.p (.list d (b.map eI))] [.p (.list false ((U7 a b).map eI)),.p (.int .i64 0)]:=by
 refine Ze [] Tryz.func161 rfl Oq ?_;simp (disch:=omega) only [Tryz.f161,go_sem,seval];refine ZV (Js a b c d 198 (fun m n=>m+n) hl ha fun j hj=>PH _ _ (h j hj)) ?_;simp (disch:=omega) only [U7,go_sem,seval];exact we
theorem PD (a b:List Int) (c d:Bool) (hl:a.length=b.length) (ha:a.length<=1048576) (h: ∀j,j<a.length-> -1073741824<=nth a j/\nth a j<=1073741824/\ -1073741824<=nth b j/\nth b j<=1073741824):PT 162 [.p (.list c (a.map eI)),.p (.list d (b.map eI))] [.p (.list false ((L5 a b).map eI)),.p (.int .i64 0)]:=by
 refine Ze [] Tryz.func162 rfl Ot ?_;simp (disch:=omega) only [Tryz.f162,go_sem,seval];refine ZV (Js a b c d 199 (fun m n=>m-n) hl ha fun j hj=>Lh _ _ (h j hj)) ?_;simp (disch:=omega) only [L5,go_sem,seval];exact we
theorem He (x:Inst) (r:Rte) (ht:0<=r.typ/\r.typ<(x.types.length:Int)) (hv: ∀v∈r.visits,inB x v=true) (hl:r.visits.length<=1048576) (hxl:x.types.length<=1048576) (hol:x.orders.length<=1048576)
  (hs:(ZK x r).skills<9223372036854775808) (ho: ∀o∈x.orders,o.skills<9223372036854775808) :
  PC 154 [.p (XU x),.p (Vp r)] (.int .i64 (if (r.visits.any fun v=> !YS (ZK x r) (nth x.orders v.order.toNat).skills)=true then 18 else 0)):=by
 refine Zd Tryz.func154 rfl Oi ?_;simp (disch:=omega) only [Tryz.f154,go_sem,seval];refine Zo [2,3,8,9] (fun k:Nat=> [(10,.p (.int .i64 k))]) (fun _=> [Zl x,.cells [.p (.int .i64 r.typ),.p (.int .i64 r.start),.p (.list r.rests_c (r.rests.map eB)),.p (.list r.visits_c (r.visits.map Z9))]]) (fun k=>k<=r.visits.length/\ ∀j,j<k->YS (ZK x r) (nth x.orders (nth r.visits j).order.toNat).skills=true) (fun k=>r.visits.length-k) 0 Zb (Weak.mk ?_) ?_
 ·simp (disch:=omega) only [Zl,go_sem,seval]
 ·rintro k ⟨hk,hno⟩;simp (disch:=omega) only [Zl,go_sem,seval];refine cD ?_ ?_<;>intro h1<;>simp (disch:=omega) only [Sh.out h1,go_sem,seval,↓reduceIte]
  ·have hk2:k<r.visits.length:=Za
   have hin:=hv _ (Zr hk2);simp only [inB,Bool.and_eq_true,decide_eq_true_eq] at hin;obtain ⟨i1,i2⟩:=hin
   have hi:(nth r.visits k).order.toNat<x.orders.length:=Za
   have ho':=ho _ (Zr hi);refine Wv (Zk ?_);refine Xn (Lw (ZK x r) (nth x.orders (nth r.visits k).order.toNat).skills Za Za) (Zk ?_);refine YE ?_ ?_<;>intro h2
   ·have:(r.visits.any fun v=> !YS (ZK x r) (nth x.orders v.order.toNat).skills)=true:=by
     grind [Zr]
    grind
   ·exact ⟨k+1,⟨Za,ZL.2 ⟨hno,by grind⟩⟩,Za,wk⟩
  ·have: ¬(r.visits.any fun v=> !YS (ZK x r) (nth x.orders v.order.toNat).skills)=true:=by
    rw [List.any_eq_true];rintro ⟨v,hv,e⟩;obtain ⟨j,hj,rfl⟩:=List.mem_iff_getElem.1 hv
    grind [Zg]
   grind
def DP (x:Inst) (d:Nat) (ms:List Int) (k:Nat):List Int:=(ms.take k).foldl (fun s i=>if (nth x.orders i.toNat).pick.place<0 then U7 s (nth x.orders i.toNat).load else s) (List.replicate d 0)
theorem Bk {x:Inst} {d:Nat} {ms:List Int} {k:Nat} (h:k<ms.length):DP x d ms (k+1)=if (nth x.orders (nth ms k).toNat).pick.place<0 then U7 (DP x d ms k) (nth x.orders (nth ms k).toNat).load else DP x d ms k:=by
 grind [DP,List.take_succ_eq_append_getElem,Zg]
theorem DQ {x:Inst} {d:Nat} {ms:List Int} (hms: ∀i∈ms,∀j,j<d->0<=nth (nth x.orders i.toNat).load j/\nth (nth x.orders i.toNat).load j<=1000): ∀k,k<=ms.length->(DP x d ms k).length=d/\ ∀j,j<d->0<=nth (DP x d ms k) j/\nth (DP x d ms k) j<=1000*k
 | 0,_=>by
  grind [DP,Zg]
 | k+1,h=>by
  obtain ⟨h1,h2⟩:=DQ hms k Za;rw [Bk Za]
  split
  ·refine ⟨by simp [U7,h1],fun j hj=> ?_⟩;have a1:=h2 j hj;have a2:=hms _ (Zr (show k<ms.length by omega)) j hj;rw [U7,WU Za];omega
  ·exact ⟨h1,fun j hj=>by have:=h2 j hj;omega⟩
theorem LZ (x:Inst) (S:Int) (d:Nat) (hd:d<=3) (hol:x.orders.length<=1048576) (hms: ∀i∈Xf S 63,0<=i/\i<(x.orders.length:Int)) (hml:(Xf S 63).length<=63)
  (hld: ∀o∈x.orders,o.load.length=d/\ ∀n∈o.load,0<=n/\n<=1000) :
  PC 159 [.p (XU x),.p (.int .i64 S),.p (.int .i64 (d:Int))] (.list false ((DP x d (Xf S 63) (Xf S 63).length).map eI)):=by
 have hmo: ∀i∈Xf S 63,i.toNat<x.orders.length:=fun i hi=>by grind
 have hrg:=DQ (x:=x) (d:=d) (ms:=Xf S 63) fun i hi j hj=>by
  grind [Zr]
 refine Zd Tryz.func159 rfl On ?_;simp (disch:=omega) only [Tryz.f159,go_sem,seval];refine (EN S).useF (Zk ?_);refine Zp ((Weak.fz (o:=1) (by rfl)).trans (Weak.fz (o:=2) (by rfl))) ?_;simp (disch:=omega) only [List.map_cons,List.map_nil,List.set_cons_succ,List.set_cons_zero,List.length_replicate,eq_self,go_sem,seval]
 have hz:List.replicate d (PV.int .i64 0)=(DP x d (Xf S 63) 0).map eI:=by
  show _=(List.replicate d 0).map eI
  rw [List.map_replicate];rfl
 refine Zo [3,13,14] (fun k:Nat=> [(7,.p (.list false ((DP x d (Xf S 63) k).map eI))),(15,.p (.int .i64 k))]) (fun _=> [Zl x,.dead,.dead]) (fun k=>k<=(Xf S 63).length) (fun k=>(Xf S 63).length-k) 0 Zb (Weak.mk ?_) ?_
 ·simp (disch:=omega) only [Zl,hz,go_sem,seval]
 ·intro k hk;have hk1:=hrg k hk;have hsn:=fun h=>Bk (x:=x) (d:=d) (ms:=Xf S 63) (k:=k) h;simp (disch:=omega) only [Zl,go_sem,seval];refine cD ?_ ?_<;>intro h1<;>simp (disch:=omega) only [Sh.out h1,go_sem,seval,↓reduceIte]
  ·have hk2:k<(Xf S 63).length:=Za
   have hm:=hms _ (Zr hk2);have hi:=hmo _ (Zr hk2);have hlo:=hld _ (Zr hi);have hsn:=hsn hk2;refine Zk ?_;refine YE ?_ ?_<;>intro h2
   ·rw [if_pos h2] at hsn;refine ZV (Hb (DP x d (Xf S 63) k) (nth x.orders (nth (Xf S 63) k).toNat).load false (nth x.orders (nth (Xf S 63) k).toNat).load_c Za Za fun j hj=> ?_) ?_
    ·have b1:=hk1.2 j Za;have b2:=hlo.2 _ (Zr (show j<(nth x.orders (nth (Xf S 63) k).toNat).load.length by omega));omega
    ·refine Zk ?_;exact ⟨k+1,Za,Za,Weak.mk (by simp (disch:=omega) only [hsn,go_sem,seval])⟩
   ·rw [if_neg h2] at hsn;exact ⟨k+1,Za,Za,Weak.mk (by simp (disch:=omega) only [hsn,go_sem,seval])⟩
  grind
theorem B0 {p:Nat->Bool} {n:Nat} (h: ∀i,n<=i->p i=false): ∀k,n<=k->(List.range k).filter p=(List.range n).filter p:=by
 intro k hk
 induction k with
 | zero=>grind
 | succ k ih =>
  grind [List.range_succ]
theorem dL {x:Inst} {l:List Vis} (hi:Inr x l) (hn:x.orders.length<=10):Xf ((Ww l:Nat):Int) 63=((List.range x.orders.length).filter fun (i:Nat)=>Yj l (i:Int)).map fun (i:Nat)=>(i:Int):=by
 have key: ∀i:Nat,i<=62->Jk ((Ww l:Nat):Int) (i:Int)=Yj l (i:Int):=fun i h=>by
  rw [HF _ _ h,Bool.eq_iff_iff,Ha,Qu]
  constructor
  ·rintro ⟨v,hv,e⟩;exact ⟨v,hv,by have:=hi v hv;omega⟩
  grind
 unfold Xf;rw [List.filter_congr (q:=fun (i:Nat)=>Yj l (i:Int)) (fun i hm=>key i (by grind)),B0 (n:=x.orders.length) (fun i h=> ?_) 63 Za]
 cases hh:Yj l (i:Int) with
 | false=>rfl
 | true =>
  obtain ⟨v,hv,e⟩:=Qu.1 hh;have:=hi v hv;omega
theorem Gg {x:Inst} {d:Nat} : ∀(L:List Nat) (g:Nat->Int),(L.map fun (i:Nat)=>(i:Int)).foldl (fun s (i:Int)=>if (nth x.orders i.toNat).pick.place<0 then U7 s (nth x.orders i.toNat).load else s) ((List.range d).map g)=(List.range d).map fun j=>g j+(L.map fun i=>if (nth x.orders i).pick.place<0 then nth (nth x.orders i).load j else 0).sum
 | [],g=>Zb
 | i::L,g=>by
  rw [List.map_cons,List.foldl_cons,Int.toNat_natCast]
  by_cases h:(nth x.orders i).pick.place<0
  ·have e:U7 ((List.range d).map g) (nth x.orders i).load=(List.range d).map fun j=>g j+nth (nth x.orders i).load j:=by
    grind [U7,List.map_congr_left,WU]
   rw [if_pos h,e,Gg L]
   grind
  ·rw [if_neg h,Gg L]
   grind
theorem Fa {x:Inst} {l:List Vis} (hi:Inr x l) (hn:x.orders.length<=10):DP x (dimsOf x.types).toNat (Xf ((Ww l:Nat):Int) 63) (Xf ((Ww l:Nat):Int) 63).length=Ya x l 0:=by
 rw [DP,List.take_length,dL hi hn];have:=Gg (x:=x) (d:=(dimsOf x.types).toNat) ((List.range x.orders.length).filter fun (i:Nat)=>Yj l (i:Int)) fun _=>0
 have e:(List.range (dimsOf x.types).toNat).map (fun _=>(0:Int))=List.replicate (dimsOf x.types).toNat 0:=by
  simp_all [List.map_const']
 rw [e] at this;rw [this,Ya];refine List.map_congr_left fun j _=> ?_;rw [Int.zero_add,Vv,Q2]
 congr 1
 refine List.map_congr_left fun i _=> ?_
 grind [G5]
theorem HN {x:Inst} {l:List Vis} {n j:Nat} {d:Nat} (hj:j<d) (hld: ∀o∈x.orders,o.load.length=d/\ ∀n∈o.load,0<=n/\n<=1000) (hn:x.orders.length<=10):0<=Q2 x l n j/\Q2 x l n j<=10000:=by
 have key:=DR (f:=fun i=>if i<x.orders.length then (if (Bx x l n i&&Yj l i)=true then nth (nth x.orders i).load j else 0) else 0) (b:=1000) Za (fun q=>by
  grind [Zr]) x.orders.length
 have e:Q2 x l n j=((List.range x.orders.length).map fun i=>if i<x.orders.length then (if (Bx x l n i&&Yj l i)=true then nth (nth x.orders i).load j else 0) else 0).sum:=by
  simp_all [Q2,List.map_congr_left]
 omega
theorem Fz {x:Inst} {l:List Vis} {n j:Nat} (hj:j<(dimsOf x.types).toNat) (hd:LdOk x):0<=nth (Ya x l n) j/\nth (Ya x l n) j<=10000:=by
 rw [Ya,WU hj];exact HN hj (fun o ho=>by obtain ⟨h1,h2⟩:=hd.load o ho;grind) hd.ord
def ME {α:Type} (f:α->Bool) (l:List α):Int:=match l.findIdx? f with | some i=>(i:Int) | none=> -1
theorem Gi {α:Type} [Inhabited α] {f:α->Bool} {l:List α} {k:Nat} (hk:k<l.length) (h:f (nth l k)=true) (hno: ∀j,j<k->f (nth l j)=false):ME f l=(k:Int):=by
 have:l.findIdx? f=some k:=by
  grind [List.findIdx?_eq_some_iff_getElem,Zg]
 simp [ME,this]
theorem Gk {α:Type} [Inhabited α] {f:α->Bool} {l:List α} (hno: ∀j,j<l.length->f (nth l j)=false):ME f l= -1:=by
 have:l.findIdx? f=none:=by
  rw [List.findIdx?_eq_none_iff];intro x hx;obtain ⟨j,hj,rfl⟩:=List.mem_iff_getElem.1 hx
  grind [Zg]
 simp [ME,this]
theorem Gj {α:Type} {f:α->Bool} {l:List α} :decide (0<=ME f l)=l.any f:=by
 grind [ME]
theorem Ez (l:List (List Int)) (c:Bool) (g:FuncId) (caps:List V) (H:List AM.Obj) (f:List Int->Bool) (hl:l.length<=1048576) (hW:Bs H H.length H H) (hc:Zy H.length caps=true)
  (hg: ∀v∈l,ACalls Tryz.prog g (.p (MD v)::caps) H fun x H'=>x= .p (.bool (f v))/\H'=H) :
  ACalls Tryz.prog 221 [.p (.list c (l.map MD)),.fn (.func g) [] caps] H fun x H'=>x= .p (.int .i64 (ME f l))/\H'=H:=by
 refine Xu Tryz.func221 rfl OZ (Zc [] _ _ _ _ ?_);simp (disch:=omega) only [Tryz.f221,go_sem,seval];refine Zo [0,1,7] (fun k:Nat=> [(8,.p (.int .i64 k))]) (fun _=>H) (fun k=>k<=l.length/\ ∀j,j<k->f (nth l j)=false) (fun k=>l.length-k) 0 Zb (Weak.mk ?_) ?_
 ·simp (disch:=omega) only [hW,hc,go_sem,seval];simp
 ·rintro k ⟨hk,hno⟩;refine Zk ?_;refine cD ?_ ?_<;>intro h<;>simp (disch:=omega) only [Sh.out h,go_sem,seval,↓reduceIte]
  ·have hk2:k<l.length:=Za
   have hgk:=hg (nth l k) (Xj hk2);simp (disch:=omega) only [NP,go_sem,seval] at hgk;refine hgk.useH (Zk ?_);refine cD ?_ ?_<;>intro h2<;>simp (disch:=omega) only [Sh.out h2,go_sem,seval,↓reduceIte]
   ·grind [Gi]
   ·have h3:f (nth l k)=false:=Za
    refine ⟨k+1,⟨Za,ZL.2 ⟨hno,h3⟩⟩,Za,Weak.mk ?_⟩;simp (disch:=omega) only [hW,hc,go_sem,seval];simp
  grind [Gk]
theorem Kq (l:List (List Int)) (c:Bool) (g:FuncId) (caps:List V) (H:List AM.Obj) (f:List Int->Bool) (hl:l.length<=1048576) (hW:Bs H H.length H H) (hc:Zy H.length caps=true)
  (hg: ∀v∈l,ACalls Tryz.prog g (.p (MD v)::caps) H fun x H'=>x= .p (.bool (f v))/\H'=H) :
  ACalls Tryz.prog 188 [.p (.list c (l.map MD)),.fn (.func g) [] caps] H fun x H'=>x= .p (.bool (l.any f))/\H'=H:=by
 refine Xu Tryz.func188 rfl OG (Zc [] _ _ _ _ ?_);simp (disch:=omega) only [Tryz.f188,go_sem,seval];refine (Ez l c g caps H f hl hW hc hg).useH (Zk ?_);rw [Gj]
theorem Hg (x:Inst) (r:Rte) (hx:InstOk x) (hl:r.visits.length<=1048576):PC 153 [.p (XU x),.p (Vp r)] (.int .i64 (ZX x r.visits)):=by
 have hf:=EA hx;obtain ⟨h1,h2⟩:=List.append_eq_nil_iff.1 hx.rules
 have ha:x.apart.length<=1048576:=by
  have h3:=(List.append_eq_nil_iff.1 h1).1
  grind [mL]
 have hb:x.before.length<=1048576:=by
  have h3:=(List.append_eq_nil_iff.1 h2).1
  grind [mL]
 exact CE x r (by have:=hf.len;omega) hl ha hb
theorem Lv {x:Inst} {l:List Vis} (hi:Inr x l) (hn:x.orders.length<=10):AS l=(((Ww l:Nat):Int),0):=by
 rw [AS,if_pos];rw [List.all_eq_true];intro v hv;have:=hi v hv;simp [HZ];omega
theorem rD {α:Type} (f:Nat->α) (n:Nat):(List.range n).map f++ [f n]=(List.range (n+1)).map f:=by grind [List.range_succ]
theorem Q1 {P Q:Prop} (h:Q) (e:Q->P:=by intro h;simp (disch:=omega) only [List.map_cons,List.map_nil,List.set_cons_succ,List.set_cons_zero,go_sem,seval];exact h):P:=e h
theorem AU (x:Inst) (r:Rte) (hx:InstOk x) (hl:r.visits.length<=1048576) (h0:ZX x r.visits=0) :
  PT 116 [.p (XU x),.p (Vp r)] [.p (.list false ((WO x r.visits).map MD)),.p (.int .i64 0)]:=by
 have hd:=VL hx;have hsq:=XC h0;have hol:=hd.ord;have hso:=Bd r hl;rw [Lv hsq.inr hol] at hso
 have hD:dimsOf x.types=((dimsOf x.types).toNat:Int):=by have:=hd.dim;omega
 have cd:=Lz x.types x.types_c hd.typ;rw [hD] at cd;have hst:=Fa hsq.inr hol
 have hmem: ∀i∈Xf ((Ww r.visits:Nat):Int) 63,0<=i/\i<(x.orders.length:Int):=fun i hi=>by
  rw [dL hsq.inr hol] at hi
  grind
 have cs:=LZ x ((Ww r.visits:Nat):Int) (dimsOf x.types).toNat (by have:=hd.dim;omega) Za hmem (AI _ _) (fun o ho=>by have:=hd.load o ho;grind);rw [hst] at cs;refine Ze [20] Tryz.func116 rfl N6 ?_;simp (disch:=omega) only [Tryz.f116,go_sem,seval];refine (Hg x r hx hl).use (Zk ?_);simp (disch:=omega) only [h0,go_sem,seval];refine ZV hso (Zk ?_);refine Wv (Zk ?_);refine Xn (cd) (Zk ?_);refine Xn (cs) (Zk ?_);refine ZR [20] [2,37,38] (fun q:Nat×List (List Int)=> [(9,.p (.list false ((Ya x r.visits q.1).map eI))),(10,.sl 2 0 q.2.length q.2.length),(39,.p (.int .i64 q.1))]) (fun q=> [Zl x,Z3 r,.elems 1 (q.2.map MD)]) (fun q=>q.1<=r.visits.length/\q.2=(List.range (q.1+1)).map (Ya x r.visits)) (fun q=>r.visits.length-q.1) (0,[Ya x r.visits 0]) Zb (Weak.mk ?_) ?_
 ·simp (disch:=omega) only [Zl,Z3,List.map_nil,List.map_cons,List.length_nil,List.length_cons,go_sem,seval]
 ·rintro ⟨k,o⟩ ⟨hk,ho⟩;simp only at hk ho
  have hol2:o.length=k+1:=by rw [ho];simp
  refine J0 ?_;refine cD ?_ ?_<;>intro h1<;>simp (disch:=omega) only [Sh.out h1,go_sem,seval,↓reduceIte]
  ·have hk2:k<r.visits.length:=Za
   obtain ⟨v1,v2⟩:=hsq.inr _ (Xj hk2)
   have hi:(nth r.visits k).order.toNat<x.orders.length:=Za
   obtain ⟨l1,l2⟩:=hd.load _ (Zr hi);have hsu:=D2 hsq hk2;have hal:=KZ (x:=x) (l:=r.visits) (n:=k);have hdm:=hd.dim
   have hrg: ∀j,j<(Ya x r.visits k).length-> -1073741824<=nth (Ya x r.visits k) j/\nth (Ya x r.visits k) j<=1073741824/\ -1073741824<=nth (nth x.orders (nth r.visits k).order.toNat).load j/\nth (nth x.orders (nth r.visits k).order.toNat).load j<=1073741824:=fun j hj=>by
    have b1:=Fz (x:=x) (l:=r.visits) (n:=k) (j:=j) Za hd
    grind [Zr]
   refine cD ?_ ?_<;>intro h2<;>simp (disch:=omega) only [Sh.out h2,go_sem,seval,↓reduceIte]
   ·rw [if_pos h2] at hsu;refine ZV (PD (Ya x r.visits k) (nth x.orders (nth r.visits k).order.toNat).load false (nth x.orders (nth r.visits k).order.toNat).load_c Za Za hrg) (Zk ?_);exact ⟨(k+1,o++ [Ya x r.visits (k+1)]),⟨Za,by grind⟩,Za,Weak.mk (by simp (disch:=omega) only [hsu,List.length_append,List.length_cons,List.length_nil,List.map_append,List.map_cons,List.map_nil,go_sem,seval])⟩
   ·rw [if_neg (by rw [h2];simp)] at hsu;refine ZV (Hb (Ya x r.visits k) (nth x.orders (nth r.visits k).order.toNat).load false (nth x.orders (nth r.visits k).order.toNat).load_c Za Za hrg) (Zk ?_);exact ⟨(k+1,o++ [Ya x r.visits (k+1)]),⟨Za,by grind⟩,Za,Weak.mk (by simp (disch:=omega) only [hsu,List.length_append,List.length_cons,List.length_nil,List.map_append,List.map_cons,List.map_nil,go_sem,seval])⟩
  ·have hkl:k=r.visits.length:=Za
   subst hkl;refine Zp (Weak.fz (o:=2) (by rfl)) (Zc [] _ _ _ _ (Q1 ?_));rw [WO,<- ho];exact we
theorem I0 (x:Inst) (r:Rte) (a:List Int) (htl:x.types.length<=1048576) (hty:0<=r.typ/\r.typ<(x.types.length:Int)) (ha:a.length<=1048576) (hc:(ZK x r).cap.length<=1048576) :
  ACalls Tryz.prog 189 [.p (MD a),.ptr 0 0,.ptr 1 0] [Zl x,Z3 r] fun y H'=>y= .p (.bool (!UB a (ZK x r).cap))/\H'= [Zl x,Z3 r]:=by
 have hti:r.typ.toNat<x.types.length:=Za
 refine Ze [] Tryz.func189 rfl OH ?_;simp (disch:=omega) only [Tryz.f189,Zl,Z3,go_sem,seval];refine (LB a (ZK x r).cap false (ZK x r).cap_c ha hc).use (Zk ?_);exact we
theorem Hc (x:Inst) (r:Rte) (hx:InstOk x) (hl:r.visits.length<=1048576) (hty:0<=r.typ/\r.typ<(x.types.length:Int)) (h0:ZX x r.visits=0) :
  PC 155 [.p (XU x),.p (Vp r)] (.int .i64 (if Qz x (ZK x r).cap r.visits=true then 0 else 17)):=by
 have hd:=VL hx;have htl:=hd.typ
 have hti:r.typ.toNat<x.types.length:=Za
 have hcp:(ZK x r).cap.length<=1048576:=by
  have hcap:=hx.types.2 _ hti;unfold DS at hcap;obtain ⟨⟨⟨⟨⟨⟨⟨⟨_,_⟩,_⟩,_⟩,hcap⟩,_⟩,_⟩,_⟩,_⟩:=hcap;simp only [FU,Bool.and_eq_true,decide_eq_true_eq,rng] at hcap;unfold ZK;omega
 have hll:(WO x r.visits).length=r.visits.length+1:=by simp [WO]
 have hvl:=(XC h0).len hd.ord
 have Xe:(WO x r.visits).any (fun a=> !UB a (ZK x r).cap)= !Qz x (ZK x r).cap r.visits:=by
  grind [Qz,WO]
 have e1: ¬r.typ<0:=Za
 have e2: ¬(x.types.length:Int)<=r.typ:=Za
 refine Zd Tryz.func155 rfl Oj ?_;simp (disch:=omega) only [Tryz.f155,e1,e2,go_sem,seval];refine ZV (AU x r hx hl h0) (Zk ?_);refine (Kq (WO x r.visits) false 189 [.ptr 0 0,.ptr 1 0] [Zl x,Z3 r] (fun a=> !UB a (ZK x r).cap) Za (by simp (disch:=omega) only [Zl,Z3,go_sem,seval]) (by rfl) (fun a ha=>I0 x r a htl hty ?_ hcp)).useH ?_
 ·obtain ⟨j,_,rfl⟩:=List.mem_map.1 ha;rw [KZ];have:=hd.dim;omega
 ·refine J0 ?_;rw [Xe];refine cD ?_ ?_<;>intro h1<;>simp (disch:=omega) only [Sh.out h1,go_sem,seval]
  ·grind
  grind
theorem PY {p q:Pt} {t:Int} (h1:p.t<=t) (h2:t<q.t) (hp:p.t<=p.a) (hq:q.t<=q.a):t<=KL p q t:=by
 unfold KL
 have hw:0<q.t-p.t:=Za
 have key:(t-p.a)*(q.t-p.t)<=(t-p.t)*(q.a-p.a)+q.t-p.t-1:=by
  have e:(t-p.t)*(q.a-p.a)-(t-p.a)*(q.t-p.t)=(t-p.t)*(q.a-q.t)+(p.a-p.t)*(q.t-t):=by
   grind
  have h3:0<=(t-p.t)*(q.a-q.t):=Int.mul_nonneg Za Za;have h4:0<=(p.a-p.t)*(q.t-t):=Int.mul_nonneg Za Za;omega
 have:=Int.le_ediv_of_mul_le hw key;omega
theorem Il {l:List Pt} {t:Int} (hl:YB l):t<=WG l t:=by
 obtain ⟨⟨hl1,hl2⟩,hpt⟩:=hl;unfold WG
 split
 ·rename_i i hi;have hm:=List.mem_of_find?_eq_some hi;have hs:=List.find?_some hi;simp at hm;simp only [V3,Bool.and_eq_true,decide_eq_true_eq] at hs;obtain ⟨⟨p1,p2,p3,p4⟩,_⟩:=hpt i Za;obtain ⟨⟨q1,q2,q3,q4⟩,q5⟩:=hpt (i+1) Za
  simp_all [PY]
 ·obtain ⟨⟨p1,p2,p3,p4⟩,_⟩:=hpt 0 Za;obtain ⟨⟨q1,q2,q3,q4⟩,_⟩:=hpt (l.length-1) Za;omega
theorem Gs {n:Net} {pr f t τ:Int} (hn:netR n) (h:(Jf n pr f t τ).2.2=0):τ<=(Jf n pr f t τ).1:=by
 unfold Jf at h ⊢
 split at h
 ·simp at h
 ·rename_i c1;rw [if_neg c1]
  split at h
  ·grind
  ·rename_i c2;rw [if_neg c2]
   split at h
   ·rename_i c3;rw [if_pos c3];have hA:=Uh c3;have h1:=Il (t:=τ) (hn.2.2 _ hA).1;have h2:=Va (t:=τ) (fun p hp=>((hn.2.2 _ hA).2.2 p hp).2.2) _ (Nat.le_refl _)
    grind [D7]
   ·simp at h
theorem Eh {x t sp} {st:Int} {r:List Bool} (hr:r.length<=sp.length+1) (h:(YH x t sp st r).2=0): ∃bs:List Bool,bs.length=sp.length+1/\(ZZ x t sp 0 (ZU t st) bs).2=0/\(YH x t sp st r).1=(ZZ x t sp 0 (ZU t st) bs).1.she:=by
 unfold YH at h ⊢
 cases hf:Yp XM none ((XE r (sp.length+1)).filterMap (Wj (ZS x t sp) 0 (ZU t st))) with
 | none =>
  rw [hf] at h;simp only at h ⊢;exfalso
  have hm:YP r (sp.length+1)∈XE r (sp.length+1):=by
   grind [XE,YP,We]
  have h2:Wj (ZS x t sp) 0 (ZU t st) (YP r (sp.length+1))=some (ZZ x t sp 0 (ZU t st) (YP r (sp.length+1))).1:=by rw [YC,if_pos h]
  have h3:(ZZ x t sp 0 (ZU t st) (YP r (sp.length+1))).1∈(XE r (sp.length+1)).filterMap (Wj (ZS x t sp) 0 (ZU t st)):=List.mem_filterMap.2 ⟨_,hm,h2⟩;generalize (XE r (sp.length+1)).filterMap (Wj (ZS x t sp) 0 (ZU t st))=l at hf h3
  cases l with
  | nil=>simp at h3
  | cons a l =>
   rw [Yp] at hf;obtain ⟨z,e,_⟩:=YY XM l a
   grind
 | some L =>
  simp only;have hm:=bestF_len.fmL_mem _ _ hf;obtain ⟨bs,hbs,hrun⟩:=List.mem_filterMap.1 hm;rw [YC] at hrun
  split at hrun
  ·rename_i h5;simp at hrun;subst hrun;obtain ⟨q,hq,rfl⟩:=List.mem_map.1 hbs;have hql:=bestF_len.fromB_len _ _ hq
   grind
  ·cases hrun
def Al (x:Inst) (t:Typ) (r:Rte) (c:Bool) (sp:List Stp):PV:= .agg [.list x.net.places_c (x.net.places.map eS),.list x.net.arcs_c (x.net.arcs.map VD),.list x.types_c (x.types.map Je),.list x.orders_c (x.orders.map VE),.list x.apart_c (x.apart.map eP),.list x.before_c (x.before.map eP),.str t.name,.int .i64 t.count,.int .i64 t.src,.int .i64 t.dst,.list t.cap_c (t.cap.map eI),.int .i64 t.skills,.int .i64 t.prof,.int .i64 t.opn,.int .i64 t.cls,.int .i64 t.drive,.int .i64 t.rest,.int .i64 t.fixed,.int .i64 t.perMile,.int .i64 t.perTick,.int .i64 r.typ,.int .i64 r.start,.list r.rests_c (r.rests.map eB),.list r.visits_c (r.visits.map Z9),.list c (sp.map BT)]
@[go_sem] theorem iX (x:Inst) (t:Typ) (r:Rte) (c:Bool) (sp:List Stp):Al x t r c sp= .agg [.list x.net.places_c (x.net.places.map eS),.list x.net.arcs_c (x.net.arcs.map VD),.list x.types_c (x.types.map Je),.list x.orders_c (x.orders.map VE),.list x.apart_c (x.apart.map eP),.list x.before_c (x.before.map eP),.str t.name,.int .i64 t.count,.int .i64 t.src,.int .i64 t.dst,.list t.cap_c (t.cap.map eI),.int .i64 t.skills,.int .i64 t.prof,.int .i64 t.opn,.int .i64 t.cls,.int .i64 t.drive,.int .i64 t.rest,.int .i64 t.fixed,.int .i64 t.perMile,.int .i64 t.perTick,.int .i64 r.typ,.int .i64 r.start,.list r.rests_c (r.rests.map eB),.list r.visits_c (r.visits.map Z9),.list c (sp.map BT)]:=Eq.trans rfl rfl
def Rg (x:Inst) (t:Typ) (r:Rte):List V:= [.p (.list x.net.places_c (x.net.places.map eS)),.p (.list x.net.arcs_c (x.net.arcs.map VD)),.p (.list x.types_c (x.types.map Je)),.p (.list x.orders_c (x.orders.map VE)),.p (.list x.apart_c (x.apart.map eP)),.p (.list x.before_c (x.before.map eP)),.p (.str t.name),.p (.int .i64 t.count),.p (.int .i64 t.src),.p (.int .i64 t.dst),.p (.list t.cap_c (t.cap.map eI)),.p (.int .i64 t.skills),.p (.int .i64 t.prof),.p (.int .i64 t.opn),.p (.int .i64 t.cls),.p (.int .i64 t.drive),.p (.int .i64 t.rest),.p (.int .i64 t.fixed),.p (.int .i64 t.perMile),.p (.int .i64 t.perTick),.p (.int .i64 r.typ),.p (.int .i64 r.start),.p (.list r.rests_c (r.rests.map eB)),.p (.list r.visits_c (r.visits.map Z9))]
def Xb (x:Inst) (t:Typ) (r:Rte) (c:Bool) (sp:List Stp):AM.Obj:= .cells [.p (.list x.net.places_c (x.net.places.map eS)),.p (.list x.net.arcs_c (x.net.arcs.map VD)),.p (.list x.types_c (x.types.map Je)),.p (.list x.orders_c (x.orders.map VE)),.p (.list x.apart_c (x.apart.map eP)),.p (.list x.before_c (x.before.map eP)),.p (.str t.name),.p (.int .i64 t.count),.p (.int .i64 t.src),.p (.int .i64 t.dst),.p (.list t.cap_c (t.cap.map eI)),.p (.int .i64 t.skills),.p (.int .i64 t.prof),.p (.int .i64 t.opn),.p (.int .i64 t.cls),.p (.int .i64 t.drive),.p (.int .i64 t.rest),.p (.int .i64 t.fixed),.p (.int .i64 t.perMile),.p (.int .i64 t.perTick),.p (.int .i64 r.typ),.p (.int .i64 r.start),.p (.list r.rests_c (r.rests.map eB)),.p (.list r.visits_c (r.visits.map Z9)),.p (.list c (sp.map BT))]
def Rn : AM.Obj:= .cells [.p (.list true []),.p (.list true []),.p (.list true []),.p (.list true []),.p (.list true []),.p (.list true []),.p (.str []),.p (.int .i64 0),.p (.int .i64 0),.p (.int .i64 0),.p (.list true []),.p (.int .i64 0),.p (.int .i64 0),.p (.int .i64 0),.p (.int .i64 0),.p (.int .i64 0),.p (.int .i64 0),.p (.int .i64 0),.p (.int .i64 0),.p (.int .i64 0),.p (.int .i64 0),.p (.int .i64 0),.p (.list true []),.p (.list true []),.p (.list true [])]
def Wb (L:Lab):PV:= .agg [.int .i64 L.ready,.int .i64 L.since,.bool L.she.rest,.int .i64 L.she.dep,.list L.she.times_c (L.she.times.map eTim),.int .i64 L.she.fin,.int .i64 L.she.miles]
@[go_sem] theorem iN (L:Lab):Wb L= .agg [.int .i64 L.ready,.int .i64 L.since,.bool L.she.rest,.int .i64 L.she.dep,.list L.she.times_c (L.she.times.map eTim),.int .i64 L.she.fin,.int .i64 L.she.miles]:=Eq.trans rfl rfl
@[go_sem] theorem RL (l:List Lab):UO 7 (l.map Wb)=true:=WE (f:=Wb) (S:=7) (fun _=>rfl) l
def Xw (L:Lab):AM.Obj:= .cells [.p (.int .i64 L.ready),.p (.int .i64 L.since),.p (.bool L.she.rest),.p (.int .i64 L.she.dep),.p (.list L.she.times_c (L.she.times.map eTim)),.p (.int .i64 L.she.fin),.p (.int .i64 L.she.miles)]
theorem FX (l:List Tim) (c:Bool) (hl:l.length<=1048576):ACalls Tryz.prog 235 [.p (.list c (l.map eTim))] [] fun x H'=>x= .sl 0 0 l.length l.length/\H'= [.elems 4 (l.map eTim)]:=by
 suffices hh:ACalls Tryz.prog 235 [.p (.list c (l.map eTim))] [] fun x H'=> ∃m:List Tim,m=l/\x= .sl 0 0 m.length m.length/\H'= [.elems 4 (m.map eTim)] by
  grind
 refine Ze [1] Tryz.func235 rfl O6 ?_;simp (disch:=omega) only [Tryz.f235,go_sem,seval];refine ZI (ZI (Vz 1 rfl rfl ?_));refine ⟨_,Lr (e:=28) rfl Tryz.underlying144 rfl (fun _=>rfl),?_⟩;rintro _ ⟨b,rfl,hb⟩;refine Zk ?_;refine Zc [] _ _ _ _ ?_
 cases b with
 | true =>
  have hn:l= []:=by simp_all
  subst hn;refine Zk ?_;exact ⟨_,_,Weak.ofNil 0 4 rfl Zb (wk),[],rfl,rfl,rfl⟩
 | false =>
  refine Zk ?_;refine Zc [] _ _ _ _ (Zk ?_);exact ⟨.sl 0 0 l.length l.length,[.elems 4 (l.map eTim)],wk,l,rfl,rfl,rfl⟩
theorem Jp (x:Inst) (t:Typ) (r:Rte) (c:Bool) (sp:List Stp):PC 192 [.p (Al x t r c sp)] (Wb (ZU t r.start)):=by
 refine Ze [] Tryz.func192 rfl OJ ?_;simp (disch:=omega) only [Tryz.f192,go_sem,seval];exact we (by simp (disch:=omega) only [ZU,zShe,List.map_nil,go_sem,seval])
theorem Hl (x:Inst) (t:Typ) (r:Rte) (c:Bool) (sp:List Stp) (k:Nat) (hk:k<=sp.length) (hl:sp.length<=1048576):PC 237 [.p (Al x t r c sp),.p (.int .i64 (k:Nat))] (.int .i64 (EY t sp k)):=by
 refine Zd Tryz.func237 rfl O8 ?_;simp (disch:=omega) only [Tryz.f237,go_sem,seval];refine cD ?_ ?_<;>intro h<;>simp (disch:=omega) only [Sh.out h,go_sem,seval,↓reduceIte]
 ·simp_all [EY]
 simp_all [EY]
theorem PG (x:Inst) (r:Rte) (hx:InstOk x) (hty:0<=r.typ/\r.typ<(x.types.length:Int)) (h0:ZX x r.visits=0) (hs:0<=r.start/\r.start<=4096) :
  PT 191 [.p (XU x),.p (Vp r)] [.p (Al x (ZK x r) r false (Xa x r.visits)),.p (.bool true)]:=by
 have hd:=VL hx;have hsq:=XC h0;have hol:=hd.ord;have htl:=hd.typ;have hvl:=hsq.len hol
 have e1: ¬r.typ<0:=Za
 have e2: ¬(x.types.length:Int)<=r.typ:=Za
 have e3: ¬r.start<0:=Za
 have e4: ¬ 4096<r.start:=Za
 have e5: ¬ 20<(r.visits.length:Int):=Za
 refine Ze [12] Tryz.func191 rfl Gy ?_;simp (disch:=omega) only [Tryz.f191,e1,e2,e3,e4,e5,go_sem,seval];refine Qg [9] 10 mixed Zh Zh Zh Zb (Zk ?_);refine Y0 9 _ _ Zh (by refine Zk ?_;exact ⟨rfl,rfl⟩) (Kv ?_);refine Zk ?_
 refine ZR [12] [2,4,6,49,50] (fun q:Nat×List Stp=> [(51,.p (.int .i64 q.1))])
  (fun q=> [Zl x,Z3 r,Rn,.cells (Rg x (ZK x r) r++ [.sl 4 0 q.2.length q.2.length]),.elems 4 (q.2.map BT)])
  (fun q=>q.1<=r.visits.length/\q.2=(Xa x r.visits).take q.1) (fun q=>r.visits.length-q.1) (0,[]) Zb ((Weak.nilC (o:=3) (j:=24) 4 rfl rfl Zb).trans (Weak.mk ?_)) ?_
 ·simp (disch:=omega) only [Zl,Z3,Rn,Rg,ZK,List.map_nil,List.length_nil,List.set_cons_succ,List.set_cons_zero,List.cons_append,List.nil_append,go_sem,seval]
 ·rintro ⟨k,o⟩ ⟨hk,ho⟩;simp only at hk ho
  have hol2:o.length=k:=by grind [ZH]
  simp (disch:=omega) only [Zl,Z3,Rn,Rg,go_sem,seval];refine cD ?_ ?_<;>intro h1<;>simp (disch:=omega) only [Sh.out h1,go_sem,seval,↓reduceIte]
  ·have hk2:k<r.visits.length:=Za
   have hvis:=hsq.vis (Xj hk2);simp only [Fc,Bool.and_eq_true,decide_eq_true_eq] at hvis
   have hsn:o++ [stopV x (nth r.visits k)]=(Xa x r.visits).take (k+1):=by
    rw [ho,List.take_succ_eq_append_getElem (by grind [ZH]),<- Zg,CJ hk2]
   have hnp: ¬(stopV x (nth r.visits k)).place<0:=Za
   refine ZV (KE x (nth r.visits k) Za hvis.1 hvis.2) ?_;simp (disch:=omega) only [hnp,go_sem,seval];exact ⟨(k+1,o++ [stopV x (nth r.visits k)]),⟨Za,hsn⟩,Za,Weak.mk (by simp (disch:=omega) only [List.length_append,List.length_cons,List.length_nil,List.map_append,List.map_cons,List.map_nil,go_sem,seval])⟩
  ·have hkl:k=r.visits.length:=Za
   subst hkl
   have hso:o=Xa x r.visits:=by grind [ZH]
   subst hso;refine Zp (Weak.fz (o:=4) (by rfl)) (Zc [] _ _ _ _ (Q1 ?_));exact we
def Bg (rd sn:Int) (m:She):AM.Obj:= .cells [.p (.int .i64 rd),.p (.int .i64 sn),.p (.bool m.rest),.p (.int .i64 m.dep),.sl 4 0 m.times.length m.times.length,.p (.int .i64 m.fin),.p (.int .i64 m.miles)]
theorem BX {P:Program} {H:List AM.Obj} {f ars} {a b d:PV} {B:V->Prop} {t} (h:ACalls P f ars [] fun x H'=>x= .tup [.p a,.p b,.p d]/\H'= []) (k:B (.tup [.p a,.p b,.p d])) (ha:Zy 0 ars=true:=by rfl) :
  IY (fun y=>ACalls P f ars H (Zn (Zn (fun x H'=>x=y/\H'=H) ⟨⟩) ⟨⟩)) (Zn B t) :=
 ⟨.tup [.p a,.p b,.p d],(h.behind ha H).mono fun x H' hq=>by
  obtain ⟨y,H1,⟨rfl,rfl⟩,rfl,rfl⟩:=hq
  simp [Bf,Wl,Zn],k⟩
theorem Pw (x:Inst) (t:Typ) (r:Rte) (c:Bool) (sp:List Stp) (hok:TrpOk x t sp) (k:Nat) (hk:k<=sp.length) (hs1:0<sp.length) (L:Lab) (hL:LabR k L) (hlen:L.she.times.length=k) (hclip:0<k->L.she.times_c=false) (b:Bool) :
  PT 222 [.p (Al x t r c sp),.p (Wb L),.p (.int .i64 (k:Nat)),.p (.bool b)] [.p (Wb (Xg x t sp k L b).1),.p (.int .i64 (Xg x t sp k L b).2)]:=by
 have hd:=Qn hok hL b;have hsn:=Bh hL b;have hg:=Dj hok hL b;have hmi:=hL.mil;have hrd:=hL.rdy;have hsnL:=hL.snc;have hsl:=hok.len;have hrst:=hok.rst;unfold Xg;have hmm:= @UI k (ZN t L b) b L.she;have hmf:= @EL k (ZN t L b) b L.she;have hml:= @Uo k (ZN t L b) b L.she;refine Ze [2,7,14,31] Tryz.func222 rfl O0 ?_;simp (disch:=omega) only [Tryz.f222,go_sem,seval];refine Wv (Zk ?_);refine XK [2,3,4,5,8] (fun _:Unit=> [(10,.p (.int .i64 (ZN t L b))),(11,.p (.int .i64 (Wy L b)))]) (fun _=> [Xb x t r c sp,Xw L,Xw XF]) (fun _=>True) ?_ ?_
 ·refine Zk ?_;refine YE ?_ ?_<;>intro h
  ·subst h;exact ⟨(),Weak.mk (by simp (disch:=omega) only [Xb,Xw,XF,zShe,ZN,Wy,List.map_nil,go_sem,seval,↓reduceIte])⟩
  ·subst h;exact ⟨(),Weak.mk (by simp (disch:=omega) only [Xb,Xw,XF,zShe,ZN,Wy,List.map_nil,go_sem,seval,↓reduceIte])⟩
 ·intro _ _;refine Zc [7,14,31] _ _ _ _ ?_;simp (disch:=omega) only [Xb,Xw,XF,zShe,List.map_nil,go_sem,seval];refine (FX L.she.times L.she.times_c Za).useF (Zk ?_)
  generalize hM:Z2 k (ZN t L b) b L.she=M at *
  refine XK [2,4,8,10,11,12] (fun _:Unit=> []) (fun _=> [Xb x t r c sp,Xw L,Xw XF,Bg 0 0 M,.elems 4 (M.times.map eTim)]) (fun _=>True) ?_ ?_
  ·refine Zk ?_;refine YE ?_ ?_<;>intro h
   ·have hk0:k=0:=Za
    subst hk0
    have e:M= { L.she with rest:=b,dep:=ZN t L b } :=by rw [<- hM,Z2,if_pos rfl]
    rw [e];exact ⟨(),Weak.mk (by simp (disch:=omega) only [Xb,Xw,XF,zShe,Bg,List.map_nil,go_sem,seval])⟩
   ·have e1:((k:Int)-1).toNat=k-1:=Za
    have hk1:k-1<L.she.times.length:=Za
    have MF:(L.she.times.map eTim).set (k-1) (PV.agg [.int .i64 (nth L.she.times (k-1)).arr,.int .i64 (nth L.she.times (k-1)).beg,.int .i64 (nth L.she.times (k-1)).dep,.bool b])=(L.she.times.set (k-1) { nth L.she.times (k-1) with rest:=b }).map eTim:=by
     rw [List.map_set];rfl
    have hn1:nth (L.she.times.set (k-1) { nth L.she.times (k-1) with rest:=b }) (k-1)= { nth L.she.times (k-1) with rest:=b } :=by
     grind [Zg]
    have hl1:(L.she.times.set (k-1) { nth L.she.times (k-1) with rest:=b }).length=L.she.times.length:=Zb
    have hMt:M.times=(L.she.times.set (k-1) { nth L.she.times (k-1) with rest:=b }).set (k-1) { nth (L.she.times.set (k-1) { nth L.she.times (k-1) with rest:=b }) (k-1) with dep:=ZN t L b } :=by
     rw [hn1,List.set_set,<- hM,Z2,if_neg Za];rfl
    have hM2:M.rest=L.she.rest/\M.dep=L.she.dep:=by rw [<- hM,Z2,if_neg Za];simp
    simp (disch:=first | omega | (simp only [List.length_cons,List.length_nil,List.length_append,List.length_map,List.length_take,List.length_drop]<;>omega)) only [e1,go_sem,seval,↓reduceIte];rw [MF]
    generalize L.she.times.set (k-1) { nth L.she.times (k-1) with rest:=b } =l1 at *
    simp (disch:=first | omega | (simp only [List.length_cons,List.length_nil,List.length_append,List.length_map,List.length_take,List.length_drop]<;>omega)) only [e1,hl1,eq_self,decide_true,go_sem,seval];refine ⟨(),Weak.mk ?_⟩;simp (disch:=omega) only [Xb,Xw,XF,zShe,Bg,List.map_nil,hM2.1,hM2.2,hmm,hmf,hml,go_sem,seval];rw [hMt,List.map_set]
    rfl
  ·intro _ _;refine Zc [14,31] _ _ _ _ ?_;simp (disch:=omega) only [Xb,Xw,XF,zShe,Bg,List.map_nil,go_sem,seval];refine XK [2,4,8,10,11,12,13] (fun _:Unit=> [(14,.p (.int .i64 (MS t sp k)))]) (fun _=> [Xb x t r c sp,Xw L,Xw XF,Bg 0 0 M,.elems 4 (M.times.map eTim)]) (fun _=>True) ?_ ?_
   ·refine Zk ?_;refine YE ?_ ?_<;>intro h
    ·have e:MS t sp k=(nth sp k).place:=by rw [MS,if_neg Za]
     exact ⟨(),Weak.mk (by simp (disch:=omega) only [Xb,Xw,XF,zShe,Bg,List.map_nil,e,go_sem,seval])⟩
    ·have e:MS t sp k=t.dst:=by rw [MS,if_pos Za]
     exact ⟨(),Weak.mk (by simp (disch:=omega) only [Xb,Xw,XF,zShe,Bg,List.map_nil,e,go_sem,seval])⟩
   ·intro _ _;refine Zc [31] _ _ _ _ ?_;simp (disch:=omega) only [Xb,Xw,XF,zShe,Bg,List.map_nil,go_sem,seval];refine Wv (Zk ?_);refine Xn (Hl x t r c sp k hk Za) (Zk ?_);refine BX (dZ x.net t.prof (EY t sp k) (MS t sp k) (ZN t L b) hok.net Za) (Zk ?_);have hG:Jf x.net t.prof (EY t sp k) (MS t sp k) (ZN t L b)=Av x t sp k (ZN t L b):=rfl;rw [hG];clear hG
    generalize Av x t sp k (ZN t L b)=g at *
    generalize ZN t L b=d at *
    generalize Wy L b=s at *
    refine cD ?_ ?_<;>intro h1<;>simp (disch:=omega) only [Sh.out h1,go_sem,seval,↓reduceIte]
    ·have e:Yw t sp k g d s M=(XF,12):=by rw [Yw,if_pos h1]
     rw [e];exact we (by simp (disch:=omega) only [XF,zShe,List.map_nil,go_sem,seval])
    ·refine cD ?_ ?_<;>intro h2<;>simp (disch:=omega) only [Sh.out h2,go_sem,seval,↓reduceIte]
     ·refine cD ?_ ?_<;>intro h3<;>simp (disch:=omega) only [Sh.out h3,go_sem,seval,↓reduceIte]
      ·have e:Yw t sp k g d s M=(XF,15):=by rw [Yw,if_neg h1,if_pos Za,if_pos h3]
       rw [e];exact we (by simp (disch:=omega) only [XF,zShe,List.map_nil,go_sem,seval])
      ·refine Zp (Weak.fz (o:=4) (by rfl)) (Zc [] _ _ _ _ (Q1 ?_));refine cD ?_ ?_<;>intro h4<;>simp (disch:=omega) only [Sh.out h4,go_sem,seval,↓reduceIte]
       ·have e:Yw t sp k g d s M=(XF,16):=by rw [Yw,if_neg h1,if_pos Za,if_neg h3,if_pos h4]
        rw [e];exact we (by simp (disch:=omega) only [XF,zShe,List.map_nil,go_sem,seval])
       ·have e:Yw t sp k g d s M=(⟨g.1,s+g.1-d,{ M with fin:=g.1,miles:=M.miles+g.2.1 }⟩,0):=by rw [Yw,if_neg h1,if_pos Za,if_neg h3,if_neg h4]
        have hMc:M.times_c=false:=by
         rw [<- hM,Z2,if_neg Za]
         grind
        rw [e];exact we (by simp (disch:=omega) only [hMc,go_sem,seval])
     ·have h2': ¬k=sp.length:=Za
      have hkl:k<sp.length:=Za
      have hstp:=hok.stp _ (Zr hkl);refine ZV (ID (nth sp k) g.1) ?_;unfold BL
      by_cases h3:(nth sp k).cls<max g.1 (nth sp k).opn
      ·have e:Yw t sp k g d s M=(XF,14):=by simp_all [Yw]
       rw [e,if_pos h3];refine Zk ?_;exact we (by simp (disch:=omega) only [XF,zShe,List.map_nil,go_sem,seval])
      ·rw [if_neg h3];refine Zk ?_;refine Zp (Weak.fz (o:=4) (by rfl)) (Zc [] _ _ _ _ (Q1 ?_));refine cD ?_ ?_<;>intro h4<;>simp (disch:=omega) only [Sh.out h4,go_sem,seval,↓reduceIte]
       ·have e:Yw t sp k g d s M=(XF,16):=by simp_all [Yw]
        rw [e];exact we (by simp (disch:=omega) only [XF,zShe,List.map_nil,go_sem,seval])
       ·have e:Yw t sp k g d s M=(⟨max g.1 (nth sp k).opn+(nth sp k).serv,s+g.1-d,{ M with times_c:=false,times:=M.times++ [⟨g.1,max g.1 (nth sp k).opn,0,false⟩],miles:=M.miles+g.2.1 }⟩,0):=by simp_all [Yw,if_neg]
        rw [e];exact we
theorem ER {x t sp k L b} (hs:0<sp.length) (hc:0<k->L.she.times_c=false) (he:(Xg x t sp k L b).2=0):(Xg x t sp k L b).1.she.times_c=false:=by
 have hm:0<k->(Z2 k (ZN t L b) b L.she).times_c=false:=fun h=>by rw [Z2,if_neg Za];exact hc h
 unfold Xg at he ⊢
 generalize Av x t sp k (ZN t L b)=g at *
 generalize ZN t L b=d at *
 generalize Wy L b=s at *
 generalize Z2 k d b L.she=m at *
 unfold Yw at he ⊢
 grind
structure LabO (n k:Nat) (L:Lab):Prop where
 rng:LabR k L
 len:k<=n->L.she.times.length=k
 clip:0<k->L.she.times_c=false
theorem JB {x t sp k L b} (hok:TrpOk x t sp) (hs:0<sp.length) (hk:k<=sp.length) (h:LabO sp.length k L) (he:(Xg x t sp k L b).2=0):LabO sp.length (k+1) (Xg x t sp k L b).1 :=
 ⟨Dw hok hk h.rng he,fun hk2=>QJ (h.len hk) he Za,fun _=>ER hs h.clip he⟩
theorem JC {x t sp} (hok:TrpOk x t sp) {st:Int} (hst:0<=st/\st<=4096):LabO sp.length 0 (ZU t st) :=
 ⟨⟨by have:=hok.opn;grind [ZU],by simp [ZU],by simp [ZU,zShe]⟩,fun _=>rfl,fun h=>Za⟩
theorem Dv (x:Inst) (t:Typ) (r:Rte) (c:Bool) (sp:List Stp) (hok:TrpOk x t sp) (k:Nat) (hk:k<=sp.length) (hs1:0<sp.length) (L:Lab) (hL:LabO sp.length k L) (b:Bool) :
  PT 222 [.p (Al x t r c sp),.p (Wb L),.p (.int .i64 (k:Nat)),.p (.bool b)] [.p (Wb (Xg x t sp k L b).1),.p (.int .i64 (Xg x t sp k L b).2)] :=
 Pw x t r c sp hok k hk hs1 L hL.rng (hL.len hk) hL.clip b
theorem eK (x:Inst) (t:Typ) (r:Rte) (c:Bool) (sp:List Stp) (hok:TrpOk x t sp) (hs1:0<sp.length) (hst:0<=r.start/\r.start<=4096) (bs:List Bool) (d:Bool) (hb:bs.length=sp.length+1) :
  PT 194 [.p (Al x t r c sp),.p (.list d (bs.map eB))] [.p (BS (ZZ x t sp 0 (ZU t r.start) bs).1.she),.p (.int .i64 (ZZ x t sp 0 (ZU t r.start) bs).2)]:=by
 have hsl:=hok.len;refine Ze [] Tryz.func194 rfl OL ?_;simp (disch:=omega) only [Tryz.f194,go_sem,seval];refine (Jp x t r c sp).use (Zk ?_)
 refine Zo [2,4,6,13,14] (fun q:Nat×Lab=> [(15,.p (.int .i64 q.1))]) (fun q=> [Xb x t r c sp,.cells [.p (.bool false),.p (.int .i64 0),.p (.list true []),.p (.int .i64 0),.p (.int .i64 0)],Xw q.2])
  (fun q=>q.1<=bs.length/\ZZ x t sp 0 (ZU t r.start) bs=ZZ x t sp q.1 q.2 (bs.drop q.1)/\LabO sp.length q.1 q.2) (fun q=>bs.length-q.1) (0,ZU t r.start) ⟨Zb,Zb,JC hok hst⟩ (Weak.mk ?_) ?_
 ·simp (disch:=omega) only [Xb,Xw,go_sem,seval]
 ·rintro ⟨k,L⟩ ⟨hk,hrun,hL⟩;simp only at hk hrun hL;simp (disch:=omega) only [Xb,Xw,go_sem,seval];refine cD ?_ ?_<;>intro h1<;>simp (disch:=omega) only [Sh.out h1,go_sem,seval,↓reduceIte]
  ·have hk2:k<bs.length:=Za
   have hdrop:bs.drop k=nth bs k::bs.drop (k+1):=by rw [List.drop_eq_getElem_cons hk2,Zg hk2]
   rw [hdrop,ZZ] at hrun;have cn:=Dv x t r c sp hok k Za hs1 L hL (nth bs k);have hL2:=JB (x:=x) (t:=t) (b:=nth bs k) hok hs1 Za hL
   generalize Xg x t sp k L (nth bs k)=N at *
   refine ZV cn (Zk ?_);refine YE ?_ ?_<;>intro h2
   ·rw [hrun,if_neg h2];exact we (by simp (disch:=omega) only [XF,zShe,List.map_nil,go_sem,seval])
   ·rw [if_pos Za] at hrun;exact ⟨(k+1,N.1),⟨Za,hrun,hL2 Za⟩,Za,wk⟩
  ·have hkl:k=bs.length:=Za
   subst hkl;rw [List.drop_length,ZZ] at hrun;rw [hrun];exact we
theorem IC (l m:Lab):PC 225 [.p (Wb l),.p (Wb m)] (.bool (Zu l m)):=by
 refine Zd Tryz.func225 rfl O3 ?_;simp (disch:=omega) only [Tryz.f225,go_sem,seval];refine gT ?_ ?_<;>intro h<;>simp (disch:=omega) only [Sh.out h,go_sem,seval,↓reduceIte]
 ·simp [Zu,h]
 ·simp [Zu,h]
def gH (x:Inst) (t:Typ) (r:Rte) (c:Bool) (sp:List Stp) (o:List Lab) (f z:Lab):List AM.Obj:= [Xb x t r c sp,.dead,.elems 7 (o.map Wb),Xw f,Xw z]
theorem I5 (x:Inst) (t:Typ) (r:Rte) (c:Bool) (sp:List Stp) (o:List Lab) (f z m:Lab):ACalls Tryz.prog 224 [.p (Wb m),.ptr 4 0] (gH x t r c sp o f z) fun y H'=>y= .p (.bool (Zu m z))/\H'=gH x t r c sp o f z:=by
 refine Ze [] Tryz.func224 rfl O2 ?_;simp (disch:=omega) only [Tryz.f224,gH,Xb,Xw,go_sem,seval];refine (IC m z).use (Zk ?_);exact we
theorem B4 (x:Inst) (t:Typ) (r:Rte) (c:Bool) (sp:List Stp) (o:List Lab) (f z:Lab) (hl:o.length<=2097152) :
  ACalls Tryz.prog 239 [.sl 2 0 o.length o.length,.fn (.func 224) [] [.ptr 4 0]] (gH x t r c sp o f z) fun y H'=>y= .p (.int .i64 (ME (fun m=>Zu m z) o))/\H'=gH x t r c sp o f z:=by
 refine Ze [] Tryz.func239 rfl Pa ?_;simp (disch:=omega) only [Tryz.f239,gH,Xb,Xw,go_sem,seval];refine Zo [0,1,7] (fun k:Nat=> [(8,.p (.int .i64 k))]) (fun _=>gH x t r c sp o f z) (fun k=>k<=o.length/\ ∀j,j<k->Zu (nth o j) z=false) (fun k=>o.length-k) 0 Zb (Weak.mk ?_) ?_
 ·simp (disch:=omega) only [gH,Xb,Xw,go_sem,seval,↓reduceIte]
 ·rintro k ⟨hk,hno⟩;simp (disch:=omega) only [gH,Xb,Xw,go_sem,seval];refine cD ?_ ?_<;>intro h<;>simp (disch:=omega) only [Sh.out h,go_sem,seval,↓reduceIte]
  ·have hk2:k<o.length:=Za
   have hg:=I5 x t r c sp o f z (nth o k);simp (disch:=first | omega | (simp only [List.length_cons,List.length_nil,List.length_append,List.length_map,List.length_take,List.length_drop]<;>omega)) only [UX hk2,hk2,go_sem,seval,↓reduceIte];simp (disch:=omega) only [gH,Xb,Xw,go_sem,seval] at hg;refine hg.useH (Zk ?_);refine cD ?_ ?_<;>intro h2<;>simp (disch:=omega) only [Sh.out h2,go_sem,seval,↓reduceIte]
   ·rw [Gi (f:=fun m=>Zu m z) hk2 h2 hno];exact we
   ·exact ⟨k+1,⟨Za,ZL.2 ⟨hno,Za⟩⟩,Za,wk⟩
  ·have hkl:k=o.length:=Za
   subst hkl;rw [Gk hno];exact we
theorem Jd (x:Inst) (t:Typ) (r:Rte) (c:Bool) (sp:List Stp) (o:List Lab) (f z:Lab) (hl:o.length<=2097152) :
  ACalls Tryz.prog 223 [.sl 2 0 o.length o.length,.fn (.func 224) [] [.ptr 4 0]] (gH x t r c sp o f z) fun y H'=>y= .p (.bool (o.any fun m=>Zu m z))/\H'=gH x t r c sp o f z:=by
 refine Ze [] Tryz.func223 rfl O1 ?_;simp (disch:=omega) only [Tryz.f223,go_sem,seval];refine (B4 x t r c sp o f z hl).useH (Zk ?_);rw [Gj];exact we (by simp (disch:=omega) only [gH,Xb,Xw,go_sem,seval])
def Ek (x:Inst) (t:Typ) (sp:List Stp) (r:List Bool) (k:Nat) (f:Lab) (bs:List Bool) (l:List Lab):List Lab:=bs.filterMap (ZS x t sp k f)++XH (ZS x t sp) (Yf r) k l
theorem NY (x:Inst) (t:Typ) (r:Rte) (c:Bool) (sp:List Stp) (hok:TrpOk x t sp) (hs1:0<sp.length) (k:Nat) (hk:k<=sp.length) (hrl:r.rests.length<=1048576) (l:List Lab) (d:Bool) (hl:l.length<=1048576) (hL: ∀L∈l,LabO sp.length k L) :
  PC 193 [.p (Al x t r c sp),.p (.list d (l.map Wb)),.p (.int .i64 (k:Nat))] (.list false ((ZJ Zu [] (XH (ZS x t sp) (Yf r.rests) k l)).map Wb)):=by
 have hsl:=hok.len;refine Ze [2,16] Tryz.func193 rfl OK ?_;simp (disch:=omega) only [Tryz.f193,go_sem,seval];refine Zp (Weak.fz (o:=1) (by rfl)) (Q1 ?_);refine XK [1,2,3] (fun cb:Bool=> [(7,.p (.list cb ((Yf r.rests k).map eB)))]) (fun _=> [Xb x t r c sp,.dead]) (fun _=>True) ?_ ?_
 ·refine Zk ?_;refine YE ?_ ?_<;>intro h
  ·have hk2:k<r.rests.length:=Za
   have e:Yf r.rests k=(r.rests.take (k+1)).drop k:=by
    grind [Yf,List.take_succ_eq_append_getElem]
   exact ⟨r.rests_c&&decide ((k:Int)+1=(r.rests.length:Int)),Weak.mk (by simp (disch:=omega) only [Xb,e,go_sem,seval])⟩
  ·have e:Yf r.rests k= [false,true]:=by grind [Yf]
   exact ⟨false,Weak.mk (by simp (disch:=omega) only [Xb,e,List.map_cons,List.map_nil,go_sem,seval])⟩
 ·intro cb _
  have hch:(Yf r.rests k).length<=2:=by grind [Yf]
  refine Zc [16] _ _ _ _ ?_;simp (disch:=omega) only [Xb,go_sem,seval]
  refine ZR [16] [2,3,7,29,30] (fun q:Nat×List Lab=> [(8,.sl 2 0 q.2.length q.2.length),(31,.p (.int .i64 q.1))]) (fun q=> [Xb x t r c sp,.dead,.elems 7 (q.2.map Wb)])
   (fun q=>q.1<=l.length/\ZJ Zu [] (XH (ZS x t sp) (Yf r.rests) k l)=ZJ Zu q.2 (XH (ZS x t sp) (Yf r.rests) k (l.drop q.1))/\q.2.length<=2*q.1) (fun q=>l.length-q.1) (0,[]) Zb (Weak.ofNil 8 7 rfl Zb (Weak.mk ?_)) ?_
  ·simp (disch:=omega) only [Xb,List.map_nil,List.length_nil,go_sem,seval]
  ·rintro ⟨i,o⟩ ⟨hi,hpr,hol⟩;simp only at hi hpr hol;simp (disch:=omega) only [Xb,go_sem,seval];refine cD ?_ ?_<;>intro h1<;>simp (disch:=omega) only [Sh.out h1,go_sem,seval,↓reduceIte]
   ·have hi2:i<l.length:=Za
    have hLi:=hL _ (Zr hi2)
    have hdrop:l.drop i=nth l i::l.drop (i+1):=by rw [List.drop_eq_getElem_cons hi2,Zg hi2]
    rw [hdrop] at hpr;have hpr:ZJ Zu [] (XH (ZS x t sp) (Yf r.rests) k l)=ZJ Zu o (Ek x t sp r.rests k (nth l i) ((Yf r.rests k).drop 0) (l.drop (i+1))):=hpr
    refine Zo [2,3,7,10,29,30,31,35,36] (fun q:Nat×List Lab=> [(8,.sl 2 0 q.2.length q.2.length),(37,.p (.int .i64 q.1))]) (fun q=> [Xb x t r c sp,.dead,.elems 7 (q.2.map Wb),Xw (nth l i)])
     (fun q=>q.1<=(Yf r.rests k).length/\ZJ Zu [] (XH (ZS x t sp) (Yf r.rests) k l)=ZJ Zu q.2 (Ek x t sp r.rests k (nth l i) ((Yf r.rests k).drop q.1) (l.drop (i+1)))/\q.2.length<=2*i+q.1) (fun q=>(Yf r.rests k).length-q.1) (0,o) ⟨Zb,hpr,hol⟩ (Weak.mk ?_) ?_
    ·simp (disch:=omega) only [Xb,Xw,go_sem,seval]
    ·clear hpr hol;rintro ⟨j,o⟩ ⟨hj,hpr,hol⟩;simp only at hj hpr hol;simp (disch:=omega) only [Xb,Xw,go_sem,seval];refine YE ?_ ?_<;>intro h2
     ·have hj2:j<(Yf r.rests k).length:=Za
      have hd2:(Yf r.rests k).drop j=nth (Yf r.rests k) j::(Yf r.rests k).drop (j+1):=by rw [List.drop_eq_getElem_cons hj2,Zg hj2]
      have cn:=Dv x t r c sp hok k hk hs1 (nth l i) hLi (nth (Yf r.rests k) j);have ho2:ZS x t sp k (nth l i) (nth (Yf r.rests k) j)=if (Xg x t sp k (nth l i) (nth (Yf r.rests k) j)).2=0 then some (Xg x t sp k (nth l i) (nth (Yf r.rests k) j)).1 else none:=rfl;rw [hd2,Ek,List.filterMap_cons,ho2] at hpr
      generalize Xg x t sp k (nth l i) (nth (Yf r.rests k) j)=N at *
      refine ZV cn (Zk ?_);refine aZ ?_ ?_<;>intro h3
      ·have hcl:=Jd x t r c sp o (nth l i) N.1 Za;simp (disch:=omega) only [gH,Xb,Xw,go_sem,seval] at hcl;refine hcl.useH (Zk ?_);rw [if_pos h3] at hpr;have hpr:ZJ Zu [] (XH (ZS x t sp) (Yf r.rests) k l)=if (o.any fun m=>Zu m N.1)=true then ZJ Zu o (Ek x t sp r.rests k (nth l i) ((Yf r.rests k).drop (j+1)) (l.drop (i+1))) else ZJ Zu (o++ [N.1]) (Ek x t sp r.rests k (nth l i) ((Yf r.rests k).drop (j+1)) (l.drop (i+1))):=hpr;refine YE ?_ ?_<;>intro h4
       ·rw [if_neg (by grind)] at hpr;exact ⟨(j+1,o++ [N.1]),⟨Za,hpr,by simp;omega⟩,Za,Weak.mk (by simp (disch:=omega) only [List.length_append,List.length_cons,List.length_nil,List.map_append,List.map_cons,List.map_nil,go_sem,seval])⟩
       ·rw [if_pos (by grind)] at hpr;exact ⟨(j+1,o),⟨Za,hpr,by grind⟩,Za,wk⟩
      ·rw [if_neg h3] at hpr;exact ⟨(j+1,o),⟨Za,hpr,by grind⟩,Za,wk⟩
     ·have hjl:j=(Yf r.rests k).length:=Za
      subst hjl;rw [List.drop_length,Ek,List.filterMap_nil,List.nil_append] at hpr;exact ⟨(i+1,o),⟨Za,hpr,by grind⟩,Za,wk⟩
   ·have hil:i=l.length:=Za
    subst hil;have e:XH (ZS x t sp) (Yf r.rests) k []= []:=rfl;rw [List.drop_length,e,ZJ] at hpr;rw [hpr];refine Zp (Weak.fz (o:=2) (by rfl)) (Zc [] _ _ _ _ (Q1 ?_));exact we
def IW : PV:= .agg [.list true [],.list true [],.list true [],.list true [],.list true [],.list true [],.str [],.int .i64 0,.int .i64 0,.int .i64 0,.list true [],.int .i64 0,.int .i64 0,.int .i64 0,.int .i64 0,.int .i64 0,.int .i64 0,.int .i64 0,.int .i64 0,.int .i64 0,.int .i64 0,.int .i64 0,.list true [],.list true [],.list true []]
theorem LH (x:Inst) (r:Rte) (hty:0<=r.typ/\r.typ<(x.types.length:Int)) (htl:x.types.length<=1048576) (hvl:r.visits.length<=20) (hs: ¬(0<=r.start/\r.start<=4096)) :
  PT 191 [.p (XU x),.p (Vp r)] [.p IW,.p (.bool false)]:=by
 have e1: ¬r.typ<0:=Za
 have e2: ¬(x.types.length:Int)<=r.typ:=Za
 refine Ze [] Tryz.func191 rfl Gy ?_;simp (disch:=omega) only [Tryz.f191,e1,e2,go_sem,seval];refine gF ?_ ?_<;>intro h1<;>simp (disch:=omega) only [Sh.out h1,go_sem,seval,↓reduceIte]
 ·exact we (by simp (disch:=omega) only [IW,go_sem,seval])
 ·refine gF ?_ ?_<;>intro h2<;>simp (disch:=omega) only [Sh.out h2,go_sem,seval,↓reduceIte]
  ·exact we (by simp (disch:=omega) only [IW,go_sem,seval])
  ·omega
theorem A0 {x t sp} : ∀(bs:List Bool) (k:Nat) (L:Lab),¬(ZZ x t sp k L bs).2=0->(ZZ x t sp k L bs).1=XF
 | [],k,L,h=>by simp [ZZ] at h
 | b::bs,k,L,h=>by
  rw [ZZ] at h ⊢
  split
  ·rename_i c;rw [if_pos c] at h;exact A0 bs (k+1) _ h
  ·rfl
theorem Ew (n:Nat):List.replicate n false∈Xo (List.replicate n false):=by
 rw [We];simp
theorem Ge {l:List Lab} (h:Yp XM none l=none):l= []:=by
 cases l with
 | nil=>rfl
 | cons a l =>
  obtain ⟨z,hz,_⟩:=YY (fin:=XM) l a;have:Yp XM none (a::l)=Yp XM (some a) l:=rfl
  grind
theorem Ei {x t sp} {st:Int} {r:List Bool} (h:Yp XM none ((XE r (sp.length+1)).filterMap (Wj (ZS x t sp) 0 (ZU t st)))=none): ¬(ZZ x t sp 0 (ZU t st) (YP r (sp.length+1))).2=0:=fun h0=>by
 have h1:=Ge h;have h2:YP r (sp.length+1)∈XE r (sp.length+1):=List.mem_map.2 ⟨_,Ew _,rfl⟩
 simp_all [YC]
theorem BM {x t sp} {st:Int} {r:List Bool} (hr:r.length<=sp.length+1) (h:Yp XM none (Wq Zu (ZS x t sp) (Yf r) (sp.length+1) 0 [ZU t st])=none): ¬(ZZ x t sp 0 (ZU t st) (YP r (sp.length+1))).2=0 :=
 Ei (by rw [JD,XP,Jv r _ hr] at h;exact h)
def YV (x:Inst) (r:Rte):She×Int:=if 0<=r.start/\r.start<=4096/\r.rests.length<=r.visits.length+1 then Z4 x r else (zShe,2)
theorem FT {x t sp} {ch:Nat->List Bool} {k:Nat} {l:List Lab} (hok:TrpOk x t sp) (hs:0<sp.length) (hk:k<=sp.length) (h: ∀L∈l,LabO sp.length k L): ∀L∈ZJ Zu [] (XH (ZS x t sp) ch k l),LabO sp.length (k+1) L:=fun L hL=>by
 have h1:=W9 Zu _ _ L hL;rw [List.nil_append] at h1;obtain ⟨a,ha,hb⟩:=List.mem_flatMap.1 h1
 grind [ZS,JB]
theorem Us : ∀(c out:List Lab),(ZJ Zu out c).length<=out.length+c.length
 | [],out=>by simp [ZJ]
 | x::c,out=>by
  rw [ZJ]
  split
  ·have:=Us c out;simp;omega
  ·have:=Us c (out++ [x]);simp at this ⊢;omega
theorem Jq {x t sp} {r:List Bool} {k:Nat} : ∀l:List Lab,(XH (ZS x t sp) (Yf r) k l).length<=2*l.length
 | []=>by simp [XH]
 | a::l=>by
  have ih:=Jq (x:=x) (t:=t) (sp:=sp) (r:=r) (k:=k) l;have h1:(XH (ZS x t sp) (Yf r) k (a::l))=(Yf r k).filterMap (ZS x t sp k a)++XH (ZS x t sp) (Yf r) k l:=rfl
  grind [Yf]
theorem Ly (x:Inst) (r:Rte) (hx:InstOk x) (hl:r.visits.length<=1048576) (hrl:r.rests.length<=1048576) (hty:0<=r.typ/\r.typ<(x.types.length:Int)) (h0:ZX x r.visits=0) :
  PT 156 [.p (XU x),.p (Vp r)] [.p (BS (YV x r).1),.p (.int .i64 (YV x r).2)]:=by
 have hd:=VL hx;have hsq:=XC h0;have hol:=hd.ord;have htl:=hd.typ;have hvl:=hsq.len hol;have hok:=Y5 hx hty hsq;have hsl:(Xa x r.visits).length=r.visits.length:=ZH
 have hs1:0<(Xa x r.visits).length:=by
  rw [hsl];have:=hsq.ne
  grind
 refine Ze [6,13,14] Tryz.func156 rfl Ol ?_;simp (disch:=omega) only [Tryz.f156,go_sem,seval]
 by_cases hs:0<=r.start/\r.start<=4096
 ·refine ZV (PG x r hx hty h0 hs) (Zk ?_);refine cD ?_ ?_<;>intro h1<;>simp (disch:=omega) only [Sh.out h1,go_sem,seval,↓reduceIte]
  ·have e:YV x r=(zShe,2):=by rw [YV,if_neg Za]
   rw [e];exact we (by simp (disch:=omega) only [zShe,List.map_nil,go_sem,seval])
  ·have hrs:r.rests.length<=r.visits.length+1:=Za
   have e:YV x r=Z4 x r:=by simp_all [YV]
   have hbn:= @BM x (ZK x r) (Xa x r.visits) r.start r.rests Za;rw [e,Z4,Kj Za];refine (Jp x (ZK x r) r false (Xa x r.visits)).use (Zk ?_)
   generalize hT:ZK x r=t at *
   generalize hS:Xa x r.visits=sp at *
   refine Zp (Weak.fz (o:=4) (by rfl)) ?_;refine Zc [13,14] _ _ _ _ (Zk ?_)
   refine ZR [13,14] [3,4,6,8,38] (fun q:Nat×List Lab=> [(9,.p (.list false (q.2.map Wb))),(39,.p (.int .i64 q.1))]) (fun _=> [Zl x,Z3 r,.cells [.p (.bool false),.p (.int .i64 0),.p (.list true []),.p (.int .i64 0),.p (.int .i64 0)],Xb x t r false sp,.dead])
    (fun q=>q.1<=sp.length+1/\Wq Zu (ZS x t sp) (Yf r.rests) (sp.length+1) 0 [ZU t r.start]=Wq Zu (ZS x t sp) (Yf r.rests) (sp.length+1-q.1) q.1 q.2/\(∀L∈q.2,LabO sp.length q.1 L)/\q.2.length<=2^q.1) (fun q=>sp.length+1-q.1) (0,[ZU t r.start]) ⟨Zb,Zb,fun L hL=>by grind [JC],Zb⟩ (Weak.mk ?_) ?_
   ·simp (disch:=omega) only [Zl,Z3,Xb,List.map_cons,List.map_nil,List.set_cons_succ,List.set_cons_zero,go_sem,seval]
   ·rintro ⟨k,l⟩ ⟨hk,hit,hlo,hll⟩;simp only at hk hit hlo hll;simp (disch:=omega) only [Zl,Z3,Xb,go_sem,seval];refine cD ?_ ?_<;>intro h2<;>simp (disch:=omega) only [Sh.out h2,go_sem,seval,↓reduceIte]
    ·have hk2:k<=sp.length:=Za
     have hp20:2^k<=2^20:=Nat.pow_le_pow_right Za Za;refine (NY x t r false sp hok hs1 k hk2 hrl l false Za hlo).use (Zk ?_)
     have hn:Wq Zu (ZS x t sp) (Yf r.rests) (sp.length+1-k) k l=Wq Zu (ZS x t sp) (Yf r.rests) (sp.length+1-(k+1)) (k+1) (ZJ Zu [] (XH (ZS x t sp) (Yf r.rests) k l)):=by
      have e:sp.length+1-k=(sp.length+1-(k+1))+1:=Za
      rw [e,Wq]
     have hln:=Us (XH (ZS x t sp) (Yf r.rests) k l) [];have hln2:=Jq (x:=x) (t:=t) (sp:=sp) (r:=r.rests) (k:=k) l;exact ⟨(k+1,ZJ Zu [] (XH (ZS x t sp) (Yf r.rests) k l)),⟨Za,hit.trans hn,FT hok hs1 hk2 hlo,by grind⟩,Za,Weak.mk (by simp (disch:=omega) only [List.set_cons_succ,List.set_cons_zero,go_sem,seval])⟩
    ·have hkn:k=sp.length+1:=Za
     subst hkn;rw [Nat.sub_self,Wq] at hit;rw [hit] at hbn ⊢;clear hit;refine cD ?_ ?_<;>intro h3<;>simp (disch:=omega) only [Sh.out h3,go_sem,seval,↓reduceIte]
     ·have hl0:l= []:=List.eq_nil_of_length_eq_zero Za;subst hl0;have hbn:=hbn rfl;refine ZI (UV 3 rfl rfl (Zk ?_));refine ⟨_,_,G6 (e:=4) rfl Tryz.underlying91 Zh rfl rfl rfl ?_ ?_ ?_,?_⟩
      ·simp
      ·simp;omega
      ·intro q hq;obtain ⟨b,_,rfl⟩:=List.mem_map.1 hq
       rfl
      ·have hpl:(YP r.rests (sp.length+1)).length=sp.length+1:=by simp [YP];omega
       have hpad:r.rests.map eB++(PV.bool false::List.replicate r.visits.length (PV.bool false)).drop (r.rests.map eB).length=(YP r.rests (sp.length+1)).map eB:=by
        rw [YP,List.map_append,<- List.replicate_succ,List.drop_replicate,List.map_replicate,hsl,List.length_map];rfl
       have hcr:=eK x t r false sp hok hs1 hs (YP r.rests (sp.length+1)) false hpl;have hbad:=A0 _ _ _ hbn;rw [hbad] at hcr;simp only [List.set_cons_succ,List.set_cons_zero];rw [hpad]
       generalize hRP:YP r.rests (sp.length+1)=rp at *
       refine Zp (Weak.fz (o:=5) (by rfl)) (Zc [] _ _ _ _ (Q1 ?_));rw [if_pos Za];refine ZV hcr (Zk ?_);have hfm0:Yp XM none ([]:List Lab)=none:=rfl;rw [hfm0];exact we (by simp (disch:=omega) only [XF,zShe,List.map_nil,go_sem,seval])
     ·cases l with
      | nil=>simp at h3
      | cons l0 l =>
       have e0:WA ((l0::l).map Wb) 0=Wb l0:=rfl;have hn0:nth (l0::l) 0=l0:=rfl;simp (disch:=first | omega | (simp only [List.length_cons,List.length_nil,List.length_append,List.length_map,List.length_take,List.length_drop]<;>omega)) only [hn0,List.take_length,go_sem,seval];have hfm:Yp XM none (l0::l)=Yp XM (some l0) l:=rfl;rw [hfm]
       have hlen:l.length<=2097152:=by
        have hp20:2^(sp.length+1)<=2^21:=Nat.pow_le_pow_right Za Za
        grind
       refine Zo [4,12,65,66] (fun q:Nat×Lab=> [(67,.p (.int .i64 q.1))]) (fun q=> [Zl x,Z3 r,.cells [.p (.bool false),.p (.int .i64 0),.p (.list true []),.p (.int .i64 0),.p (.int .i64 0)],Xb x t r false sp,.dead,Xw q.2])
        (fun q=>q.1<=l.length/\Yp XM (some l0) l=Yp XM (some q.2) (l.drop q.1)) (fun q=>l.length-q.1) (0,l0) Zb (Weak.mk ?_) ?_
       ·simp (disch:=omega) only [Zl,Z3,Xb,Xw,go_sem,seval]
       ·rintro ⟨i,m⟩ ⟨hi,hm⟩;simp only at hi hm;simp (disch:=omega) only [Zl,Z3,Xb,Xw,go_sem,seval];refine cD ?_ ?_<;>intro h4<;>simp (disch:=omega) only [Sh.out h4,go_sem,seval,↓reduceIte]
        ·have hi2:i<l.length:=Za
         have hdrop:l.drop i=nth l i::l.drop (i+1):=by rw [List.drop_eq_getElem_cons hi2,Zg hi2]
         rw [hdrop,Yp] at hm;refine YE ?_ ?_<;>intro h5
         ·rw [if_pos (show XM (nth l i)<XM m from h5)] at hm;exact ⟨(i+1,nth l i),⟨Za,hm⟩,Za,wk⟩
         ·rw [if_neg (show ¬XM (nth l i)<XM m from h5)] at hm;exact ⟨(i+1,m),⟨Za,hm⟩,Za,wk⟩
        ·have hil:i=l.length:=Za
         subst hil;rw [List.drop_length,Yp] at hm;rw [hm];exact we
 ·have e:YV x r=(zShe,2):=by rw [YV,if_neg (fun h=>hs ⟨h.1,h.2.1⟩)]
  rw [e];refine ZV (LH x r hty htl hvl hs) ?_;simp (disch:=omega) only [IW,go_sem,seval];exact we (by simp (disch:=omega) only [zShe,List.map_nil,go_sem,seval])
end Go.Proofs.YtmbelkfkhclnkaaGreatDoor.K
namespace Go.AM
open Go.RowKit
theorem GT (k v:Int) (l:List (Int×Int)): ∃l',Ll (.int .i64 k) (.int .i64 v) (l.map eII)=l'.map eII/\(∀q,WR l' q=if q=k then v else WR l q)/\l'.length<=l.length+1:=by
 unfold Ll;rw [Up]
 cases hm:JK l k with
 | none =>
  refine ⟨l++ [(k,v)],by simp [eII],fun q=> ?_,Zb⟩
  have e1:JK (l++ [(k,v)]) k=some l.length:=by
   grind [JK]
  by_cases hq:q=k
  ·grind [WR]
  ·rw [if_neg hq];unfold WR
   have e3:JK (l++ [(k,v)]) q=JK l q:=by
    grind [JK]
   rw [e3]
   cases hc:JK l q with
   | none=>rfl
   | some i =>
    unfold JK at hc
    grind [List.findIdx?_eq_some_iff_getElem]
 | some i =>
  refine ⟨l.set i (k,v),by simp_all [eII],?_,Zb⟩;have hH:Xv [.map (l.map eII)] 0= .map (l.map eII):=rfl;have:=Cc (H:= [.map (l.map eII)]) (o:=0) (l:=l) (k:=k) (i:=i) (v:=v) (K:=fun _ _=> ∀q,WR (l.set i (k,v)) q=if q=k then v else WR l q) hH hm fun h=>h;unfold W0 at this;obtain ⟨u,q1,_⟩:=QE hm
  simp_all [QF]
theorem GU {P:Program} {H:List Obj} {t:TypeId} {o:Nat} {l:List (Int×Int)} {k v:Int} {K:V->List Obj->Prop} (hT:GO P t=some (.int .i64,some (.int .i64 0))) (hH:Xv H o= .map (l.map eII))
  (h: ∀l':List (Int×Int),(∀q,WR l' q=if q=k then v else WR l q)->K .junk (H.set o (.map (l'.map eII)))):QF (Jn P H t (.mp o) (.p (.int .i64 k)) (.p (.int .i64 v))) K:=by
 obtain ⟨kt,et,h1,h2,h3⟩:=AH hT;obtain ⟨l',e,hg,_⟩:=GT k v l
 grind [Jn,JG,QF]
end Go.AM
namespace Go.Proofs.YtmbelkfkhclnkaaGreatDoor.K
open Go Go.AM Go.Proofs
set_option maxRecDepth 8000
set_option maxHeartbeats 8000000
def Qk (l:List Vis) (k:Nat) (q:Int):Int:=((l.take k).countP fun v=>decide (v.order=q):Nat)
theorem El {l:List Vis} {k:Nat} (h:k<l.length) (q:Int):Qk l (k+1) q=if q=(nth l k).order then Qk l k q+1 else Qk l k q:=by
 unfold Qk;rw [List.take_succ_eq_append_getElem h,List.countP_append,Zg h]
 grind
theorem FY {l:List Vis} {k:Nat} (h:k<=l.length) (q:Int):0<=Qk l k q/\Qk l k q<=k:=by
 grind [Qk,List.length_take]
theorem BO {l:List Vis} {k:Nat} :Qq l k=decide (Qk l k (nth l k).order=0):=by
 unfold Qq Qk;rw [Bool.eq_iff_iff];simp
theorem Vs (a b:Int):PC 195 [.p (.int .i64 a),.p (.int .i64 b)] (.bool (VF a b)):=by
 refine Zd Tryz.func195 rfl OM ?_;simp (disch:=omega) only [Tryz.f195,go_sem,seval];refine gT ?_ ?_<;>intro h<;>simp (disch:=omega) only [Sh.out h,go_sem,seval,↓reduceIte]
 ·simp [VF,h]
 simp_all [VF]
theorem Hf (x:Inst) (r:Rte) (s:She) (hty:0<=r.typ/\r.typ<(x.types.length:Int)) (ho:x.orders.length<=1048576) (ht:x.types.length<=1048576) (hl:r.visits.length<=1048576) (hv:Inr x r.visits)
  (hc:0<=(ZK x r).fixed/\(ZK x r).fixed<=100000/\0<=(ZK x r).perMile/\(ZK x r).perMile<=100/\0<=(ZK x r).perTick/\(ZK x r).perTick<=100) (ho2:0<=(ZK x r).opn/\(ZK x r).opn<=4096)
  (hf: -4096<=s.fin/\s.fin<=8192) (hm:0<=s.miles/\s.miles<=1000000) :
  PC 157 [.p (XU x),.p (Vp r),.p (BS s)] (IU (LU x r s)):=by
 have hti:r.typ.toNat<x.types.length:=Za
 have hT:GO Tryz.prog 264=some (.int .i64,some (.int .i64 0)):=Zh
 unfold LU;have htd:nth x.types r.typ.toNat=ZK x r:=rfl
 generalize ZK x r=t at *
 have e1: ¬r.typ<0:=Za
 have e2: ¬(x.types.length:Int)<=r.typ:=Za
 have p1:0<=t.perMile*s.miles/\t.perMile*s.miles<=100*1000000:=⟨Int.mul_nonneg Za Za,Int.mul_le_mul Za Za Za Za⟩
 have hW: -8192<=s.fin-t.opn/\s.fin-t.opn<=8192:=Za
 have p2: -819200<=t.perTick*(s.fin-t.opn)/\t.perTick*(s.fin-t.opn)<=819200:=by
  generalize s.fin-t.opn=w at hW;have a1:=Int.mul_le_mul_of_nonneg_left hW.2 (show 0<=t.perTick by omega);have a2:=Int.mul_le_mul_of_nonneg_left hW.1 (show 0<=t.perTick by omega);omega
 have p3: -128<=(s.fin-t.opn).tdiv 64/\(s.fin-t.opn).tdiv 64<=128:=by
  grind
 have p4:0<=(s.fin-t.opn).tdiv 64*(s.fin-t.opn).tdiv 64/\(s.fin-t.opn).tdiv 64*(s.fin-t.opn).tdiv 64<=16384:=by
  generalize (s.fin-t.opn).tdiv 64=q at p3;refine ⟨?_,?_⟩
  ·rcases Int.le_total 0 q with h | h
   ·exact Int.mul_nonneg h h
   ·exact Int.mul_nonneg_of_nonpos_of_nonpos h h
  ·rcases Int.le_total 0 q with h | h
   ·have:=Int.mul_le_mul p3.2 p3.2 h Za;omega
   ·have h2:0<= -q:=Za
    have:=Int.mul_le_mul (show-q<=128 by omega) (show-q<=128 by omega) h2 Za
    grind
 refine Zd Tryz.func157 rfl Om ?_;simp (disch:=omega) only [Tryz.f157,e1,e2,htd,go_sem,seval]
 refine Zo [3,4,6,10,11,59,60] (fun q:Nat×List (Int×Int)=> [(61,.p (.int .i64 q.1))]) (fun q=> [Zl x,Z3 r,.cells [.p (.bool s.rest),.p (.int .i64 s.dep),.p (.list s.times_c (s.times.map eTim)),.p (.int .i64 s.fin),.p (.int .i64 s.miles)],CC 0 0 0 0,Rh t,CC (t.fixed+t.perMile*s.miles+t.perTick*(s.fin-t.opn)) (chgF x r.visits r.typ q.1).1 (chgF x r.visits r.typ q.1).2 ((s.fin-t.opn).tdiv 64*(s.fin-t.opn).tdiv 64),.map (q.2.map eII)])
  (fun q=>q.1<=r.visits.length/\ ∀n,WR q.2 n=Qk r.visits q.1 n) (fun q=>r.visits.length-q.1) (0,[]) ⟨Zb,fun n=>rfl⟩ (Weak.mk ?_) ?_
 ·simp (disch:=omega) only [Zl,Z3,Rh,CC,chgF,go_sem,seval]
 ·rintro ⟨k,m⟩ ⟨hk,hmg⟩;simp only at hk hmg;have hch:=Af (x:=x) (l:=r.visits) (t:=r.typ) k;simp (disch:=omega) only [Zl,Z3,Rh,CC,go_sem,seval];refine cD ?_ ?_<;>intro h1<;>simp (disch:=omega) only [Sh.out h1,go_sem,seval,↓reduceIte]
  ·have hk2:k<r.visits.length:=Za
   obtain ⟨v1,v2⟩:=hv _ (Xj hk2)
   have e3: ¬(nth r.visits k).order<0:=Za
   have e4: ¬(x.orders.length:Int)<=(nth r.visits k).order:=Za
   have v3:(nth r.visits k).order.toNat<x.orders.length:=Za
   have hcs:=El hk2;have hcr:=FY hk (nth r.visits k).order;have hfi:=BO (l:=r.visits) (k:=k);have hch2:chgF x r.visits r.typ (k+1)=_:=chgF.eq_2 x r.visits r.typ k;refine AD hT rfl ?_;rw [hmg];refine Zk ?_;refine GU hT rfl fun m' hm'=> ?_
   have hmg': ∀n,WR m' n=Qk r.visits (k+1) n:=fun n=>by grind
   simp (disch:=omega) only [e3,e4,List.set_cons_succ,List.set_cons_zero,go_sem,seval];refine AD hT rfl ?_;rw [hm',if_pos rfl];refine Zk ?_;refine YE ?_ ?_<;>intro h2
   ·have h3: ¬Qq r.visits k=true:=by grind
    rw [if_neg h3] at hch2;exact ⟨(k+1,m'),⟨Za,hmg'⟩,Za,Weak.mk (by simp (disch:=omega) only [hch2,go_sem,seval])⟩
   ·have h3:Qq r.visits k=true:=by grind
    rw [if_pos h3] at hch2;refine (Vs (nth x.orders (nth r.visits k).order.toNat).now r.typ).use (Zk ?_);refine cD ?_ ?_<;>intro h4<;>simp (disch:=omega) only [Sh.out h4,go_sem,seval,↓reduceIte]
    ·rw [if_pos h4] at hch2;refine (Vs (nth x.orders (nth r.visits k).order.toNat).last r.typ).use (Zk ?_);refine YE ?_ ?_<;>intro h5
     ·rw [if_pos h5] at hch2;exact ⟨(k+1,m'),⟨Za,hmg'⟩,Za,Weak.mk (by simp (disch:=omega) only [hch2,go_sem,seval])⟩
     ·rw [if_neg (by rw [h5];simp)] at hch2;exact ⟨(k+1,m'),⟨Za,hmg'⟩,Za,Weak.mk (by simp (disch:=omega) only [hch2,Int.add_zero,go_sem,seval])⟩
    ·rw [if_neg (by rw [h4];simp)] at hch2;refine (Vs (nth x.orders (nth r.visits k).order.toNat).last r.typ).use (Zk ?_);refine YE ?_ ?_<;>intro h5
     ·rw [if_pos h5] at hch2;exact ⟨(k+1,m'),⟨Za,hmg'⟩,Za,Weak.mk (by simp (disch:=omega) only [hch2,Int.add_zero,go_sem,seval])⟩
     ·rw [if_neg (by rw [h5];simp)] at hch2;exact ⟨(k+1,m'),⟨Za,hmg'⟩,Za,Weak.mk (by simp (disch:=omega) only [hch2,Int.add_zero,go_sem,seval])⟩
  grind
end Go.Proofs.YtmbelkfkhclnkaaGreatDoor.K
namespace Go.Proofs.YtmbelkfkhclnkaaGreatDoor.K
open Go Go.AM Go.Proofs
set_option maxRecDepth 8000
set_option maxHeartbeats 8000000
@[go_sem] theorem Se {f:FuncId} :(PV.fn f).cells= [.fn f]:=Eq.trans rfl rfl
def P0 : AM.Obj:= .cells [.p (.bool false),.p (.int .i64 0),.p (.list true []),.p (.int .i64 0),.p (.int .i64 0)]
theorem BV (x:Inst) (r:Rte) (hx:InstOk x) (hl:r.visits.length<=1048576) (hrl:r.rests.length<=1048576):ACalls Tryz.prog 112 [.p (XU x),.p (Vp r)] [] fun y H'=>y=An x r/\H'= []:=by
 have hld:=VL hx;have htl:=hld.typ;have hol:=hld.ord;have chk:=Hg x r hx hl
 have htb:x.types.length<=6:=by have:=hx.types.1;simp only [rng,decide_eq_true_eq] at this;omega
 refine Ze [] Tryz.func112 rfl N5 ?_;simp (disch:=omega) only [Tryz.f112,go_sem,seval];refine gF ?_ ?_<;>intro h1<;>simp (disch:=omega) only [Sh.out h1,go_sem,seval,↓reduceIte]
 ·have e:X7 x r=2:=by rw [X7,if_pos Za]
  rw [Yo (e:=2) (by rw [ZE,e];rfl) Za];exact we (by simp (disch:=omega) only [zShe,zSco,List.map_nil,go_sem,seval])
 ·refine cD ?_ ?_<;>intro h2<;>simp (disch:=omega) only [Sh.out h2,go_sem,seval,↓reduceIte]
  ·have e:X7 x r=2:=by simp_all [X7]
   rw [Yo (e:=2) (by rw [ZE,e];rfl) Za];exact we (by simp (disch:=omega) only [zShe,zSco,List.map_nil,go_sem,seval])
  ·have hty:0<=r.typ/\r.typ<(x.types.length:Int):=Za
   have hti:r.typ.toNat<x.types.length:=Za
   have hnum:=Bo hx hti;have htyp:nth x.types r.typ.toNat=ZK x r:=rfl;rw [htyp] at hnum
   have hsk: ∀o∈x.orders,o.skills<9223372036854775808:=fun o hm=>by
    obtain ⟨i,hi,rfl⟩:=List.mem_iff_getElem.1 hm;have:=(hx.orders.2 i hi).skills
    grind [Zg]
   refine Zo [2,3,4,5,25,26] (fun k:Nat=> [(27,.p (.int .i64 k))]) (fun _=> [Zl x,Z3 r,P0,CC 0 0 0 0,.elems 1 [.fn 153,.fn 154,.fn 155]])
    (fun k=>k<=3/\(0<k->ZX x r.visits=0)/\(1<k-> ¬(r.visits.any fun v=> !YS (ZK x r) (nth x.orders v.order.toNat).skills)=true)/\(2<k->Qz x (ZK x r).cap r.visits=true)) (fun k=>3-k) 0 ⟨Za,Za,Za,Za⟩ (Weak.mk ?_) ?_
   ·simp (disch:=omega) only [Zl,Z3,CC,P0,go_sem,seval]
   ·rintro k ⟨hk,k1,k2,k3⟩;simp (disch:=omega) only [Zl,Z3,CC,P0,go_sem,seval];refine cD ?_ ?_<;>intro h3<;>simp (disch:=omega) only [Sh.out h3,go_sem,seval,↓reduceIte]
    ·by_cases hk0:k=0
     ·subst hk0;have he:WA [PV.fn 153,PV.fn 154,PV.fn 155] 0=PV.fn 153:=rfl;simp (disch:=first | omega | (simp only [List.length_cons,List.length_nil,List.length_append,List.length_map,List.length_take,List.length_drop]<;>omega)) only [he,go_sem,seval,↓reduceIte];refine (chk).use (Zk ?_);refine YE ?_ ?_<;>intro h4
      ·have e:X7 x r=ZX x r.visits:=by simp_all [X7]
       rw [Yo (e:=ZX x r.visits) (by simp_all [ZE]) h4];exact we (by simp (disch:=omega) only [zShe,zSco,List.map_nil,go_sem,seval])
      ·exact ⟨1,⟨Za,fun _=>Za,Za,Za⟩,Za,wk⟩
     ·have h0:=k1 Za;have hsq:=XC h0
      have hr0:X7 x r=if (r.visits.any fun v=> !YS (ZK x r) (nth x.orders v.order.toNat).skills)=true then 18 else if Qz x (ZK x r).cap r.visits=false then 17 else if ¬(0<=r.start/\r.start<=4096/\r.rests.length<=r.visits.length+1) then 2 else 0:=by
       rw [X7,if_neg (fun h=>h hty),if_neg Za]
      by_cases hk1:k=1
      ·subst hk1;have he:WA [PV.fn 153,PV.fn 154,PV.fn 155] 1=PV.fn 154:=rfl;simp (disch:=first | omega | (simp only [List.length_cons,List.length_nil,List.length_append,List.length_map,List.length_take,List.length_drop]<;>omega)) only [he,go_sem,seval,↓reduceIte];refine (He x r hty (fun v hv=>by have:=hsq.inr v hv;grind [inB]) hl htl Za Za hsk).use (Zk ?_)
       by_cases h5:(r.visits.any fun v=> !YS (ZK x r) (nth x.orders v.order.toNat).skills)=true
       ·rw [if_pos h5] at hr0 ⊢;rw [Yo (e:=18) (by rw [ZE,hr0];rfl) Za];refine Zk ?_;exact we (by simp (disch:=omega) only [zShe,zSco,List.map_nil,go_sem,seval])
       ·rw [if_neg h5];refine Zk ?_;exact ⟨2,⟨Za,fun _=>h0,fun _=>h5,Za⟩,Za,wk⟩
      ·have hk2:k=2:=Za
       subst hk2;have he:WA [PV.fn 153,PV.fn 154,PV.fn 155] 2=PV.fn 155:=rfl;simp (disch:=first | omega | (simp only [List.length_cons,List.length_nil,List.length_append,List.length_map,List.length_take,List.length_drop]<;>omega)) only [he,go_sem,seval,↓reduceIte];refine (Hc x r hx hl hty h0).use (Zk ?_);rw [if_neg (k2 Za)] at hr0
       cases h5:Qz x (ZK x r).cap r.visits with
       | false =>
        rw [if_pos h5] at hr0;rw [Yo (e:=17) (by rw [ZE,hr0];rfl) Za];simp only [Bool.false_eq_true,if_false];refine Zk ?_;exact we (by simp (disch:=omega) only [zShe,zSco,List.map_nil,go_sem,seval])
       | true =>
        simp only [if_true];refine Zk ?_;exact ⟨3,⟨Za,fun _=>h0,fun _=>k2 Za,fun _=>Zb⟩,Za,wk⟩
    ·have hk3:k=3:=Za
     subst hk3;have h0:=k1 Za;have hsq:=XC h0
     have hr0:X7 x r=if ¬(0<=r.start/\r.start<=4096/\r.rests.length<=r.visits.length+1) then 2 else 0:=by
      rw [X7,if_neg (fun h=>h hty),if_neg Za,if_neg (k2 Za),if_neg (by grind)]
     have cb:=Ly x r hx hl hrl hty h0;have hok:=Y5 hx hty hsq
     have hbr:YV x r=Z4 x r->(Z4 x r).2=0->(0<=r.start/\r.start<=4096/\r.rests.length<=r.visits.length+1)->(0<=(Z4 x r).1.fin/\(Z4 x r).1.fin<=8192)/\(0<=(Z4 x r).1.miles/\(Z4 x r).1.miles<=210000):=fun _ hz hs =>
      Ac hok ⟨hs.1,hs.2.1⟩ (by grind [ZH]) hz
     by_cases h6:0<=r.start/\r.start<=4096/\r.rests.length<=r.visits.length+1
     ·have e:X7 x r=0:=Za
      have ee:ZE x r=(Z4 x r).2:=by rw [ZE,if_pos e]
      have eb:YV x r=Z4 x r:=by rw [YV,if_pos h6]
      have hbr:=fun hz=>hbr eb hz h6;rw [eb] at cb
      have es:ZO x r=if (Z4 x r).2=0 then (Z4 x r).1 else zShe:=by rw [ZO,ee]
      have ep:Ju x r=if (Z4 x r).2=0 then LU x r (Z4 x r).1 else zSco:=by rw [Ju,ee]
      unfold An;rw [ee,es,ep];clear ee es ep eb
      generalize Z4 x r=q at *
      obtain ⟨sh,eb⟩:=q;simp only at cb hbr ⊢;refine ZV cb (Zk ?_);refine cD ?_ ?_<;>intro h7<;>simp (disch:=omega) only [Sh.out h7,go_sem,seval,↓reduceIte]
      ·exact we (by simp (disch:=omega) only [zShe,zSco,List.map_nil,go_sem,seval])
      ·have h7':eb=0:=Za
       try rw [if_pos h7',if_pos h7']
       subst h7';obtain ⟨g1,g2⟩:=hbr rfl;refine Z7 5 mixed Zh Zh (Zk ?_);refine Xn (Hf x r sh hty Za htl hl hsq.inr hnum.2.2.2.1 Za Za Za) (Zk ?_);exact we
     ·have e:X7 x r=2:=Za
      have eb:YV x r=(zShe,2):=by rw [YV,if_neg h6]
      rw [Yo (e:=2) (by rw [ZE,e];rfl) Za];rw [eb] at cb;refine ZV cb (Zk ?_);exact we (by simp (disch:=omega) only [zShe,zSco,List.map_nil,go_sem,seval])
theorem XL {x:Inst} {r:Rte} (h:ZE x r=0):X7 x r=0:=by
 grind [ZE]
theorem Ys {x:Inst} {r:Rte} (h:X7 x r=0):(0<=r.typ/\r.typ<(x.types.length:Int))/\ZX x r.visits=0/\(0<=r.start/\r.start<=4096/\r.rests.length<=r.visits.length+1):=by
 unfold X7 at h;omega
theorem Ao {x:Inst} {r:Rte} (hx:InstOk x) (h:ZE x r=0):(0<=(ZO x r).fin/\(ZO x r).fin<=8192)/\(0<=(ZO x r).miles/\(ZO x r).miles<=210000):=by
 obtain ⟨hty,h0,hs⟩:=Ys (XL h)
 have e:ZO x r=(Z4 x r).1:=by rw [ZO,if_pos h]
 have ee:(Z4 x r).2=0:=by rw [ZE,if_pos (XL h)] at h;exact h
 rw [e];exact Ac (Y5 hx hty (XC h0)) ⟨hs.1,hs.2.1⟩ (by grind [ZH]) ee
def YF (x:Inst):List Rte->Int
 | []=>0
 | r::l=>if ZE x r=0 then YF x l else ZE x r
theorem De {x:Inst} : ∀ {l:List Rte} {k:Nat},k<l.length->(∀j,j<k->ZE x (nth l j)=0)-> ¬ZE x (nth l k)=0->YF x l=ZE x (nth l k)
 | r::l,0,_,_,h=>by rw [YF,if_neg (show ¬ZE x r=0 from h)];rfl
 | r::l,k+1,hk,h0,h=>by
  rw [YF,if_pos (show ZE x r=0 from h0 0 Za)];exact De (l:=l) (k:=k) (by grind) (fun j hj=>h0 (j+1) Za) h
theorem Df {x:Inst} : ∀ {l:List Rte},(∀j,j<l.length->ZE x (nth l j)=0)->YF x l=0
 | [],_=>rfl
 | r::l,h=>by
  rw [YF,if_pos (show ZE x r=0 from h 0 Zb)];exact Df fun j hj=>h (j+1) (by grind)
theorem MP {x:Inst} (hx:InstOk x):x.orders.length<=10:=by have:=hx.orders.1;omega
structure Row where
 rt:Int
 v:Vis
 place:Int
 tm:Tim
 load_c:Bool
 load:List Int
 deriving Inhabited
def X4 (r:Row):PV:= .agg [.int .i64 r.rt,.int .i64 r.v.order,.bool r.v.drp,.int .i64 r.place,.int .i64 r.tm.arr,.int .i64 r.tm.beg,.int .i64 r.tm.dep,.bool r.tm.rest,.list r.load_c (r.load.map eI)]
@[go_sem] theorem iR (r:Row):X4 r= .agg [.int .i64 r.rt,.int .i64 r.v.order,.bool r.v.drp,.int .i64 r.place,.int .i64 r.tm.arr,.int .i64 r.tm.beg,.int .i64 r.tm.dep,.bool r.tm.rest,.list r.load_c (r.load.map eI)]:=Eq.trans rfl rfl
@[go_sem] theorem dS (l:List Row):QK 9 (l.map X4)=true:=KC fun _=>rfl
structure Ttb where
 rte:Rte
 she:She
 rows_c:Bool
 rows:List Row
 deriving Inhabited
def Es (t:Ttb):PV:= .agg [.int .i64 t.rte.typ,.int .i64 t.rte.start,.list t.rte.rests_c (t.rte.rests.map eB),.list t.rte.visits_c (t.rte.visits.map Z9),.bool t.she.rest,.int .i64 t.she.dep,.list t.she.times_c (t.she.times.map eTim),.int .i64 t.she.fin,.int .i64 t.she.miles,.list t.rows_c (t.rows.map X4)]
@[go_sem] theorem iY (t:Ttb):Es t= .agg [.int .i64 t.rte.typ,.int .i64 t.rte.start,.list t.rte.rests_c (t.rte.rests.map eB),.list t.rte.visits_c (t.rte.visits.map Z9),.bool t.she.rest,.int .i64 t.she.dep,.list t.she.times_c (t.she.times.map eTim),.int .i64 t.she.fin,.int .i64 t.she.miles,.list t.rows_c (t.rows.map X4)]:=Eq.trans rfl rfl
def Ws (x:Inst) (i:Nat) (r:Rte) (k:Nat):Row:=⟨i,nth r.visits k,(stopV x (nth r.visits k)).place,nth (ZO x r).times k,false,nth (WO x r.visits) (k+1)⟩
def Xp (x:Inst) (i:Nat) (r:Rte) (k:Nat):List Row:=(List.range k).map (Ws x i r)
def Wz (x:Inst) (i:Nat) (r:Rte):Ttb:=⟨r,ZO x r,false,Xp x i r r.visits.length⟩
def Wu (x:Inst) (l:List Rte) (k:Nat):List Ttb:=(List.range k).map fun i=>Wz x i (nth l i)
def Yy (x:Inst) (l:List Rte) (k:Nat):List Row:=((List.range k).map fun i=>Xp x i (nth l i) (nth l i).visits.length).flatten
theorem UK {x:Inst} {i:Nat} {r:Rte} {k:Nat} :Xp x i r (k+1)=Xp x i r k++ [Ws x i r k]:=by grind [Xp,List.range_succ]
theorem ZW {x:Inst} {i:Nat} {r:Rte} {k:Nat} :(Xp x i r k).length=k:=by simp [Xp]
theorem CL {x:Inst} {l:List Rte} {k:Nat} :Wu x l (k+1)=Wu x l k++ [Wz x k (nth l k)]:=by grind [Wu,List.range_succ]
theorem X0 {x:Inst} {l:List Rte} {k:Nat} :(Wu x l k).length=k:=by simp [Wu]
theorem Un {x:Inst} {l:List Rte} {k:Nat} :Yy x l (k+1)=Yy x l k++Xp x k (nth l k) (nth l k).visits.length:=by
 grind [Yy,List.range_succ]
theorem W3 {x:Inst} {r:Rte} (h:ZE x r=0):(ZO x r).times.length=r.visits.length:=by
 obtain ⟨_,_,hs⟩:=Ys (XL h)
 have e:ZO x r=(Z4 x r).1:=by rw [ZO,if_pos h]
 have ee:(Z4 x r).2=0:=by rw [ZE,if_pos (XL h)] at h;exact h
 rw [e,<- ZH (x:=x)];exact bestF_len (by grind [ZH]) ee
theorem EG {x:Inst} {l:List Vis} :(WO x l).length=l.length+1:=by simp [WO]
def B8 (r:Rte):AM.Obj:= .cells [.p (.int .i64 r.typ),.p (.int .i64 r.start),.p (.list r.rests_c (r.rests.map eB)),.p (.list r.visits_c (r.visits.map Z9))]
def QA (s:She):AM.Obj:= .cells [.p (.bool s.rest),.p (.int .i64 s.dep),.p (.list s.times_c (s.times.map eTim)),.p (.int .i64 s.fin),.p (.int .i64 s.miles)]
def B9 (s:Sco):AM.Obj:= .cells [.p (.int .i64 s.cost),.p (.int .i64 s.moved),.p (.int .i64 s.other),.p (.int .i64 s.work)]
def Ca (r:Rte) (s:She) (o n:Nat):AM.Obj:= .cells [.p (.int .i64 r.typ),.p (.int .i64 r.start),.p (.list r.rests_c (r.rests.map eB)),.p (.list r.visits_c (r.visits.map Z9)),.p (.bool s.rest),.p (.int .i64 s.dep),.p (.list s.times_c (s.times.map eTim)),.p (.int .i64 s.fin),.p (.int .i64 s.miles),.sl o 0 n n]
def pdep (s:She):Nat->Int
 | 0=>s.dep
 | i+1=>(nth s.times i).dep
structure LabS (sp:List Stp) (k:Nat) (L:Lab):Prop where
 len:L.she.times.length=k
 seg: ∀i,i<k->((nth L.she.times i).arr<=(nth L.she.times i).beg/\0<=(nth L.she.times i).arr/\(nth L.she.times i).beg<=4096)/\pdep L.she i<=(nth L.she.times i).arr
 dep: ∀i,i+1<k->(nth L.she.times i).beg+(nth sp i).serv<=(nth L.she.times i).dep
 fst:0<k->0<=L.she.dep
 rdy: ∀i,i+1=k->L.ready=(nth L.she.times i).beg+(nth sp i).serv
 ge:0<=L.ready
structure SheOk (sp:List Stp) (s:She):Prop where
 len:s.times.length=sp.length
 seg: ∀i,i<sp.length->((nth s.times i).arr<=(nth s.times i).beg/\0<=(nth s.times i).arr/\(nth s.times i).beg<=4096)/\pdep s i<=(nth s.times i).arr
 dep: ∀i,i<sp.length->(nth s.times i).beg+(nth sp i).serv<=(nth s.times i).dep
 fst:0<=s.dep
 lst:pdep s sp.length<=s.fin
theorem GX {α:Type} [Inhabited α] {l:List α} {i j:Nat} {a:α} (h:i<l.length):nth (l.set i a) j=if i=j then a else nth l j:=by
 grind [nth]
theorem GY {α:Type} [Inhabited α] {l:List α} {j:Nat} {a:α} (h:j<l.length):nth (l++ [a]) j=nth l j:=by
 grind [nth]
theorem GW {α:Type} [Inhabited α] {l:List α} {a:α} :nth (l++ [a]) l.length=a:=by
 grind [nth]
structure MarkS (sp:List Stp) (k:Nat) (d:Int) (m:She):Prop where
 len:m.times.length=k
 seg: ∀i,i<k->((nth m.times i).arr<=(nth m.times i).beg/\0<=(nth m.times i).arr/\(nth m.times i).beg<=4096)/\pdep m i<=(nth m.times i).arr
 dep: ∀i,i<k->(nth m.times i).beg+(nth sp i).serv<=(nth m.times i).dep
 fst:0<=m.dep
 cur:pdep m k=d
theorem Du {sp:List Stp} {k:Nat} {L:Lab} {d:Int} {b:Bool} (h:LabS sp k L) (hd:L.ready<=d):MarkS sp k d (Z2 k d b L.she):=by
 have hge:=h.ge
 cases k with
 | zero =>
  have e:Z2 0 d b L.she= { L.she with rest:=b,dep:=d } :=by simp [Z2]
  rw [e];exact ⟨h.len,fun i hi=>Za,fun i hi=>Za,by grind,rfl⟩
 | succ k =>
  have hl:=h.len;have hr:=h.rdy k rfl
  have e:Z2 (k+1) d b L.she= { L.she with times:=L.she.times.set k { nth L.she.times k with dep:=d,rest:=b } } :=by rfl
  rw [e];have hn: ∀i,nth (L.she.times.set k { nth L.she.times k with dep:=d,rest:=b }) i=if k=i then { nth L.she.times k with dep:=d,rest:=b } else nth L.she.times i:=fun i=>GX Za;refine ⟨by grind,fun i hi=> ?_,fun i hi=> ?_,h.fst Za,?_⟩
  ·have hs:=h.seg i hi
   have ha:(nth (L.she.times.set k { nth L.she.times k with dep:=d,rest:=b }) i).arr=(nth L.she.times i).arr/\(nth (L.she.times.set k { nth L.she.times k with dep:=d,rest:=b }) i).beg=(nth L.she.times i).beg:=by
    grind
   simp only;rw [ha.1,ha.2];refine ⟨hs.1,?_⟩
   cases i with
   | zero=>exact hs.2
   | succ i =>
    simp only [pdep] at hs ⊢
    grind
  ·simp only;rw [hn]
   split
   ·grind
   ·exact h.dep i Za
  ·simp only [pdep]
   grind
theorem Lq {x:Inst} {t:Typ} {sp:List Stp} {k:Nat} {L:Lab} {b:Bool} (hT:TrpOk x t sp) (hk:k<sp.length) (h:LabS sp k L) (he:(Xg x t sp k L b).2=0):LabS sp (k+1) (Xg x t sp k L b).1:=by
 have hrs:=hT.rst
 have hd:L.ready<=ZN t L b:=by grind [ZN]
 have hge:=h.ge;have hm:=Du (b:=b) h hd;have hgo:(Av x t sp k (ZN t L b)).2.2=0->ZN t L b<=(Av x t sp k (ZN t L b)).1:=fun e=>Gs hT.net e;have hst:=hT.stp _ (Zr hk);unfold Xg at he ⊢
 generalize Av x t sp k (ZN t L b)=g at *
 generalize ZN t L b=d at *
 generalize Wy L b=s at *
 generalize Z2 k d b L.she=m at *
 have hk2: ¬k=sp.length:=Za
 unfold Yw at he ⊢;simp only [if_neg hk2] at he ⊢
 split at he
 ·simp at he
 ·rename_i c1;rw [if_neg c1];have hg:=hgo Za
  split at he
  ·simp at he
  ·rename_i c2;rw [if_neg c2]
   split at he
   ·simp at he
   ·rename_i c3;rw [if_neg c3];have hml:=hm.len;have hn: ∀i,i<k->nth (m.times++ [⟨g.1,max g.1 (nth sp k).opn,0,false⟩]) i=nth m.times i:=fun i hi=>GY Za
    have hl:nth (m.times++ [(⟨g.1,max g.1 (nth sp k).opn,0,false⟩:Tim)]) k=⟨g.1,max g.1 (nth sp k).opn,0,false⟩:=by grind [GW]
    refine ⟨by simp [hml],fun i hi=> ?_,fun i hi=> ?_,fun _=>hm.fst,fun i hi=> ?_,by grind⟩
    ·have hpd:pdep { m with times_c:=false,times:=m.times++ [⟨g.1,max g.1 (nth sp k).opn,0,false⟩],miles:=m.miles+g.2.1 } i=pdep m i:=by
      cases i with
      | zero=>rfl
      | succ i=>grind [pdep]
     simp only at hpd ⊢;rw [hpd]
     by_cases e:i=k
     ·subst e;rw [hl,hm.cur]
      grind
     ·rw [hn i Za];exact hm.seg i Za
    ·simp only;rw [hn i Za];exact hm.dep i Za
    grind
theorem Lp {x:Inst} {t:Typ} {sp:List Stp} {L:Lab} {b:Bool} (hT:TrpOk x t sp) (h:LabS sp sp.length L) (he:(Xg x t sp sp.length L b).2=0):SheOk sp (Xg x t sp sp.length L b).1.she:=by
 have hrs:=hT.rst
 have hd:L.ready<=ZN t L b:=by grind [ZN]
 have hm:=Du (b:=b) h hd;have hgo:(Av x t sp sp.length (ZN t L b)).2.2=0->ZN t L b<=(Av x t sp sp.length (ZN t L b)).1:=fun e=>Gs hT.net e;unfold Xg at he ⊢
 generalize Av x t sp sp.length (ZN t L b)=g at *
 generalize ZN t L b=d at *
 generalize Wy L b=s at *
 generalize Z2 sp.length d b L.she=m at *
 unfold Yw at he ⊢;simp only [if_true] at he ⊢
 split at he
 ·simp at he
 ·rename_i c1;rw [if_neg c1];have hg:=hgo Za
  split at he
  ·simp at he
  ·rename_i c2;rw [if_neg c2]
   split at he
   ·simp at he
   ·rename_i c3;rw [if_neg c3]
    have hpd: ∀i,pdep { m with fin:=g.1,miles:=m.miles+g.2.1 } i=pdep m i:=fun i=>by rfl
    refine ⟨hm.len,fun i hi=> ?_,hm.dep,hm.fst,?_⟩
    ·rw [hpd];exact hm.seg i hi
    ·rw [hpd,hm.cur];exact hg
theorem DL {x:Inst} {t:Typ} {sp:List Stp} (hT:TrpOk x t sp): ∀(bs:List Bool) (k:Nat) (L:Lab),LabS sp k L->k+bs.length=sp.length+1->0<bs.length->(ZZ x t sp k L bs).2=0->SheOk sp (ZZ x t sp k L bs).1.she
 | [],k,L,_,_,h3,_=>by simp at h3
 | b::bs,k,L,h1,h2,_,h=>by
  rw [ZZ] at h ⊢
  by_cases h4:(Xg x t sp k L b).2=0
  ·simp only [h4,if_true] at h ⊢
   cases bs with
   | nil =>
    simp_all [ZZ,Lp]
   | cons b2 bs =>
    simp at h2;exact DL hT (b2::bs) (k+1) _ (Lq hT Za h1 h4) (by simp;omega) Zb h
  grind
theorem F7 {x:Inst} {r:Rte} (hx:InstOk x) (h:ZE x r=0):SheOk (Xa x r.visits) (ZO x r):=by
 obtain ⟨hty,h0,hs⟩:=Ys (XL h)
 have e:ZO x r=(Z4 x r).1:=by rw [ZO,if_pos h]
 have ee:(Z4 x r).2=0:=by rw [ZE,if_pos (XL h)] at h;exact h
 have hT:=Y5 hx hty (XC h0);obtain ⟨bs,hb1,hb2,hb3⟩:=Eh (by grind [ZH]) ee;have hb3:(Z4 x r).1=_:=hb3;rw [e,hb3];have hop:=hT.opn;refine DL hT bs 0 _ ⟨rfl,fun i hi=>Za,fun i hi=>Za,fun h=>Za,fun i hi=>Za,?_⟩ Za Za hb2
 grind [ZU]
theorem Am {x:Inst} {l:List Rte} :YF x l=0↔ ∀r∈l,ZE x r=0:=by
 induction l with
 | nil=>simp [YF]
 | cons r l ih =>
  rw [YF]
  grind
set_option maxRecDepth 60000
theorem Wn (x:Inst) (p:Pln) (hx:InstOk x) (hr:p.routes.length<=1048576) (hb: ∀r∈p.routes,Hv r) :
  ACalls Tryz.prog 72 [.p (XU x),.p (Ep p)] [] fun y H'=>y=(if YF x p.routes=0 then .tup [.p (.list false ((Wu x p.routes p.routes.length).map Es)),.p (.int .i64 0)] else .tup [.p (.list true []),.p (.int .i64 (YF x p.routes))])/\H'= []:=by
 have hn:=MP hx;refine Ze [2,20] Tryz.func72 rfl cQ ?_;simp (disch:=omega) only [Tryz.f72,go_sem,seval];refine Zp (Weak.nil 6 10 (by rfl) Zb) ?_;refine Zc [20] _ _ _ _ ?_;simp (disch:=omega) only [List.set_cons_succ,List.set_cons_zero,List.cons_append,List.nil_append,List.length_cons,List.length_nil,go_sem,seval];refine ZR [12,18] [2,19,20] (fun k:Nat=> [(6,.sl 2 0 k k),(21,.p (.int .i64 k))]) (fun k=> [Zl x,Xx p,.elems 10 ((Wu x p.routes k).map Es)]) (fun k=>k<=p.routes.length/\ ∀j,j<k->ZE x (nth p.routes j)=0) (fun k=>p.routes.length-k) 0 Zb (Weak.mk ?_) ?_
 ·simp (disch:=omega) only [Zl,Xx,Wu,List.range_zero,List.map_nil,go_sem,seval]
 ·rintro k ⟨hk,hz⟩;simp (disch:=omega) only [Zl,Xx,go_sem,seval];refine cD ?_ ?_<;>intro h1<;>simp (disch:=omega) only [Sh.out h1,go_sem,seval]
  ·have hk2:k<p.routes.length:=Za
   have hm:=Zr hk2;obtain ⟨b1,b2⟩:=hb _ hm;have ce:=BV x (nth p.routes k) hx b1 b2;unfold An at ce;refine MU ce ?_;simp (disch:=omega) only [go_sem,seval];refine cD ?_ ?_<;>intro h2<;>simp (disch:=omega) only [Sh.out h2,go_sem,seval]
   ·have her:=De hk2 hz h2;rw [if_neg (by rw [her];exact h2),her];exact we
   ·have hz0:ZE x (nth p.routes k)=0:=Za
    obtain ⟨hty,hsq,_⟩:=Ys (XL hz0);refine ZV (AU x (nth p.routes k) hx b1 hsq) ?_;simp (disch:=omega) only [go_sem,seval];refine Zp (Weak.nilC (o:=6) (j:=9) 9 (by rfl) (by rfl) Zb) ?_;have htl:=W3 hz0;have hll:=EG (x:=x) (l:=(nth p.routes k).visits);have hsqi:=(XC hsq);refine XK [2,6,13,19,20,21] (fun _:Unit=> []) (fun _=> [Zl x,Xx p,.elems 10 ((Wu x p.routes k).map Es),B8 (nth p.routes k),QA (ZO x (nth p.routes k)),B9 (Ju x (nth p.routes k)),Ca (nth p.routes k) (ZO x (nth p.routes k)) 7 (nth p.routes k).visits.length,.elems 9 ((Xp x k (nth p.routes k) (nth p.routes k).visits.length).map X4)]) (fun _=>True) ?_ ?_
    ·simp (disch:=omega) only [List.set_cons_succ,List.set_cons_zero,List.cons_append,List.nil_append,List.length_cons,List.length_nil,go_sem,seval];refine Zo [2,6,7,9,12,13,19,20,21,49,50] (fun q:Nat=> [(51,.p (.int .i64 q))]) (fun q=> [Zl x,Xx p,.elems 10 ((Wu x p.routes k).map Es),B8 (nth p.routes k),QA (ZO x (nth p.routes k)),B9 (Ju x (nth p.routes k)),Ca (nth p.routes k) (ZO x (nth p.routes k)) 7 q,.elems 9 ((Xp x k (nth p.routes k) q).map X4)]) (fun q=>q<=(nth p.routes k).visits.length) (fun q=>(nth p.routes k).visits.length-q) 0 Zb (Weak.mk ?_) ?_
     ·simp (disch:=omega) only [Zl,Xx,B8,QA,B9,Ca,Xp,List.range_zero,List.map_nil,go_sem,seval]
     ·intro q hq;simp (disch:=omega) only [Zl,Xx,B8,QA,B9,Ca,go_sem,seval];refine cD ?_ ?_<;>intro h3<;>simp (disch:=omega) only [Sh.out h3,go_sem,seval]
      ·have hq2:q<(nth p.routes k).visits.length:=Za
       have hvis:=hsqi.vis (Zr hq2);simp only [Fc,Bool.and_eq_true,decide_eq_true_eq] at hvis;have hms:=UK (x:=x) (i:=k) (r:=nth p.routes k) (k:=q);have hmr:Ws x k (nth p.routes k) q=⟨k,nth (nth p.routes k).visits q,(stopV x (nth (nth p.routes k).visits q)).place,nth (ZO x (nth p.routes k)).times q,false,nth (WO x (nth p.routes k).visits) (q+1)⟩:=rfl;refine ZV (KE x (nth (nth p.routes k).visits q) Za hvis.1 hvis.2) ?_;simp (disch:=omega) only [go_sem,seval];refine Z7 18 mixed Zh Zh ?_;simp (disch:=omega) only [go_sem,seval]
       rw [if_pos ⟨ZW,Za,Za⟩];simp (disch:=omega) only [ZW,decide_true,eq_self,go_sem,seval];refine ⟨q+1,Za,Za,Weak.mk ?_⟩;simp (disch:=omega) only [Zl,Xx,B8,QA,B9,Ca,hms,hmr,List.map_append,List.map_cons,List.map_nil,go_sem,seval]
      ·have hql:q=(nth p.routes k).visits.length:=Za
       subst hql;exact ⟨(),Weak.mk (by simp (disch:=omega) only [Zl,Xx,B8,QA,B9,Ca,go_sem,seval])⟩
    ·intro _ _;have hts:=CL (x:=x) (l:=p.routes) (k:=k);have htl2:=X0 (x:=x) (l:=p.routes) (k:=k);refine Zp (Weak.fz (o:=7) (by rfl)) ?_;refine Zc [] _ _ _ _ ?_;simp (disch:=omega) only [List.map_cons,List.map_nil,List.set_cons_succ,List.set_cons_zero,Zl,Xx,B8,QA,B9,Ca,ZW,eq_self,go_sem,seval];rw [if_pos ⟨htl2,Za,Za⟩];simp (disch:=omega) only [htl2,go_sem,seval];refine ⟨k+1,⟨Za,fun j hj=> ?_⟩,Za,Weak.mk ?_⟩
     ·rcases Nat.lt_or_ge j k with h | h
      ·exact hz j h
      ·have:j=k:=Za
       subst this;exact hz0
     ·simp (disch:=omega) only [Zl,Xx,hts,Wz,List.map_append,List.map_cons,List.map_nil,go_sem,seval]
  ·have hkl:k=p.routes.length:=Za
   subst hkl;have h0:YF x p.routes=0:=Df hz;rw [if_pos h0];refine Zp (Weak.fz (o:=2) (by rfl)) ?_;refine Zc [] _ _ _ _ ?_;simp (disch:=omega) only [List.map_cons,List.map_nil,List.set_cons_succ,List.set_cons_zero,Zl,Xx,X0,eq_self,go_sem,seval];exact we
def Ps (x:Inst) (p:Pln):V:=if YF x p.routes=0 then .tup [.p (.list false ((Yy x p.routes p.routes.length).map X4)),.p (.int .i64 0)] else .tup [.p (.list true []),.p (.int .i64 (YF x p.routes))]
theorem AF {x:Inst} {l:List Rte} {k B:Nat} (hb: ∀i,i<k->(nth l i).visits.length<=B):(Yy x l k).length<=B*k:=by
 induction k with
 | zero=>simp [Yy]
 | succ k ih =>
  rw [Un,List.length_append,ZW];have:=ih fun i hi=>hb i Za;have:=hb k Za;rw [Nat.mul_succ];omega
theorem KP {x:Inst} {l:List Rte} {n k:Nat} (h:k<n):nth (Wu x l n) k=Wz x k (nth l k):=by
 rw [Zg (by rw [X0];exact h)];simp [Wu]
theorem Ld (x:Inst) (p:Pln) (hx:InstOk x) (hr:p.routes.length<=1048576) (hb: ∀r∈p.routes,Hv r) :
  ACalls Tryz.prog 28 [.p (XU x),.p (Ep p)] [] fun y H'=>y=Ps x p/\H'= []:=by
 refine Ze [5,10] Tryz.func28 rfl cE ?_;have ct:=Wn x p hx hr hb;unfold Ps
 by_cases h0:YF x p.routes=0
 ·simp only [if_pos h0] at ct ⊢;simp (disch:=omega) only [Tryz.f28,go_sem,seval];refine ZV ct ?_;simp (disch:=omega) only [go_sem,seval];refine Zp (Weak.nil 8 9 (by rfl) Zb) ?_;refine Zc [10] _ _ _ _ ?_;simp (disch:=omega) only [List.set_cons_succ,List.set_cons_zero,List.cons_append,List.nil_append,List.length_cons,List.length_nil,X0,go_sem,seval];have hl:=X0 (x:=x) (l:=p.routes) (k:=p.routes.length);refine Zo [20,21] (fun k:Nat=> [(8,.sl 2 0 (Yy x p.routes k).length (Yy x p.routes k).length),(22,.p (.int .i64 k))]) (fun k=> [Zl x,Xx p,.elems 9 ((Yy x p.routes k).map X4)]) (fun k=>k<=p.routes.length) (fun k=>p.routes.length-k) 0 Zb (Weak.mk ?_) ?_
  ·simp (disch:=omega) only [Zl,Xx,Yy,List.range_zero,List.map_nil,List.flatten_nil,List.length_nil,go_sem,seval]
  ·intro k hk;simp (disch:=omega) only [Zl,Xx,go_sem,seval];refine cD ?_ ?_<;>intro h1<;>simp (disch:=omega) only [Sh.out h1,go_sem,seval]
   ·have hk2:k<p.routes.length:=Za
    have hat:=KP (x:=x) (l:=p.routes) hk2;have hms:=Un (x:=x) (l:=p.routes) (k:=k);have hml:(Yy x p.routes k).length<=1048576*k:=AF fun i hi=>(hb _ (Zr Za)).1;have hrl:=ZW (x:=x) (i:=k) (r:=nth p.routes k) (k:=(nth p.routes k).visits.length);have hvl:=(hb _ (Zr hk2)).1;simp (disch:=omega) only [hat,Wz,go_sem,seval];rw [if_pos ⟨by rw [hrl];omega,by rw [hrl];omega⟩];simp (disch:=omega) only [go_sem,seval];refine ⟨k+1,Za,Za,Weak.mk ?_⟩;simp (disch:=omega) only [Zl,Xx,hms,List.map_append,List.length_append,go_sem,seval]
   ·have hkl:k=p.routes.length:=Za
    subst hkl;refine Zp (Weak.fz (o:=2) (by rfl)) ?_;refine Zc [] _ _ _ _ ?_;simp (disch:=omega) only [List.map_cons,List.map_nil,List.set_cons_succ,List.set_cons_zero,Zl,Xx,List.length_map,eq_self,go_sem,seval];exact we
 ·simp only [if_neg h0] at ct ⊢;simp (disch:=omega) only [Tryz.f28,go_sem,seval];refine ZV ct ?_;simp (disch:=omega) only [go_sem,seval];refine cD ?_ ?_<;>intro h1<;>simp (disch:=omega) only [Sh.out h1,go_sem,seval]
  ·exact we
  ·omega
def QB (x:Inst) (l:List Rte) (k q:Nat):List Row:=Yy x l k++Xp x k (nth l k) q
theorem EJ {x l k} :QB x l k 0=Yy x l k:=by simp [QB,Xp]
theorem GK {x l k} :QB x l k (nth l k).visits.length=Yy x l (k+1):=by rw [Un];rfl
theorem EI {x l k q} :QB x l k (q+1)=QB x l k q++ [Ws x k (nth l k) q]:=by rw [QB,UK,<- List.append_assoc];rfl
theorem GL {x l k q} :(QB x l k q).length=(Yy x l k).length+q:=by rw [QB,List.length_append,ZW]
def Jo (now:Int) (fin:Int):Int->List Tim->Bool
 | d,[]=>decide (d<=now)&&decide (now<fin)
 | d,t::l=>(decide (d<=now)&&decide (now<t.arr))||Jo now fin t.dep l
def Qf (s:She) (now:Int):Bool:=Jo now s.fin s.dep s.times
def UL (t:Tim):Bool:=t.rest
def JT (s:She):Int:=(if s.rest=true then 1 else 0)+(s.times.countP UL:Nat)
theorem FO {now fin d:Int} {l:List Tim} {k:Nat} (hk:k<l.length):Jo now fin d (l.drop k)=((decide (d<=now)&&decide (now<(nth l k).arr))||Jo now fin (nth l k).dep (l.drop (k+1))):=by
 rw [List.drop_eq_getElem_cons hk,Zg hk];rfl
theorem JN {s:She} {k:Nat} :pdep s (k+1)=(nth s.times k).dep:=rfl
def Q4 (t:Ttb):AM.Obj:= .cells [.p (.int .i64 t.rte.typ),.p (.int .i64 t.rte.start),.p (.list t.rte.rests_c (t.rte.rests.map eB)),.p (.list t.rte.visits_c (t.rte.visits.map Z9)),.p (.bool t.she.rest),.p (.int .i64 t.she.dep),.p (.list t.she.times_c (t.she.times.map eTim)),.p (.int .i64 t.she.fin),.p (.int .i64 t.she.miles),.p (.list t.rows_c (t.rows.map X4))]
theorem NB (t:Ttb) (now:Int) (hl:t.rows.length<=1048576) (hn:t.rows.length=t.she.times.length) (ht: ∀k,k<t.rows.length->(nth t.rows k).tm=nth t.she.times k) :
  PC 74 [.p (Es t),.p (.int .i64 now)] (.bool (Qf t.she now)):=by
 refine Zd Tryz.func74 rfl cU ?_;simp (disch:=omega) only [Tryz.f74,go_sem,seval];refine Zo [1,2,12,13] (fun k:Nat=> [(5,.p (.int .i64 (pdep t.she k))),(14,.p (.int .i64 k))]) (fun _=> [Q4 t]) (fun k=>k<=t.rows.length/\Qf t.she now=Jo now t.she.fin (pdep t.she k) (t.she.times.drop k)) (fun k=>t.rows.length-k) 0 ⟨Za,rfl⟩ (Weak.mk ?_) ?_
 ·simp (disch:=omega) only [Q4,pdep,go_sem,seval]
 ·rintro k ⟨hk,ha⟩;simp (disch:=omega) only [Q4,go_sem,seval];refine cD ?_ ?_<;>intro h1<;>simp (disch:=omega) only [Sh.out h1,go_sem,seval]
  ·have hk2:k<t.rows.length:=Za
   have htk:=ht k hk2;rw [FO Za] at ha;refine gT ?_ ?_<;>intro h2<;>simp (disch:=omega) only [Sh.out h2,go_sem,seval]
   ·simp (disch:=omega) only [htk,go_sem,seval];refine cD ?_ ?_<;>intro h3<;>simp (disch:=omega) only [Sh.out h3,go_sem,seval]
    ·rw [ha];simp [h2,h3]
    ·exact ⟨k+1,⟨Za,by rw [ha];simp [h3];rfl⟩,Za,Weak.mk (by simp (disch:=omega) only [Q4,htk,JN,go_sem,seval])⟩
   ·refine ⟨k+1,⟨Za,by rw [ha];simp [h2];rfl⟩,Za,Weak.mk (by simp (disch:=omega) only [Q4,htk,JN,go_sem,seval])⟩
  ·have hkl:k=t.she.times.length:=Za
   subst hkl;rw [List.drop_length,Jo] at ha;rw [ha];refine gT ?_ ?_<;>intro h4<;>simp (disch:=omega) only [Sh.out h4,go_sem,seval]
theorem Ah {l:List Tim} {k:Nat} (h:k<l.length):(((l.take (k+1)).countP UL:Nat):Int)=((l.take k).countP UL:Nat)+(if (nth l k).rest=true then 1 else 0):=by
 rw [List.take_succ_eq_append_getElem h,List.countP_append,<- Zg h]
 by_cases e:(nth l k).rest=true
 ·simp [UL,e]
 ·simp [UL,e]
theorem Em {l:List Tim} {k:Nat} :(l.take k).countP UL<=k:=Nat.le_trans (List.countP_le_length) (by simp;omega)
theorem GJ (s:She) (hl:s.times.length<=1048576):PC 75 [.p (BS s)] (.int .i64 (JT s)):=by
 refine Zd Tryz.func75 rfl cV ?_;simp (disch:=omega) only [Tryz.f75,go_sem,seval];unfold JT;generalize hb:s.rest=b
 cases b
 all_goals
  simp (disch:=omega) only [go_sem,seval];refine Zo [11,12] (fun k:Nat=> [(3,.p (.int .i64 ((if s.rest=true then 1 else 0)+((s.times.take k).countP UL:Nat)))),(13,.p (.int .i64 k))]) (fun _=> [QA s]) (fun k=>k<=s.times.length) (fun k=>s.times.length-k) 0 Zb (Weak.mk ?_) ?_
  ·simp (disch:=omega) only [QA,List.take_zero,List.countP_nil,hb,go_sem,seval]
  ·intro k hk;simp (disch:=omega) only [QA,hb,go_sem,seval];refine cD ?_ ?_<;>intro h1<;>simp (disch:=omega) only [Sh.out h1,go_sem,seval]
   ·have hk2:k<s.times.length:=Za
    have hc:=Ah hk2;have hcl:=Em (l:=s.times) (k:=k)
    generalize he:(nth s.times k).rest=r at *
    cases r
    all_goals
     simp (disch:=omega) only [go_sem,seval];refine ⟨k+1,Za,Za,Weak.mk ?_⟩;simp (disch:=omega) only [QA,hb,hc,go_sem,seval];exact congrArg (PV.int .i64) Za
   ·have hkl:k=s.times.length:=Za
    subst hkl;rw [List.take_length]
def Jh (x:Inst) (l:List Rte):Nat->Int
 | 0=>0
 | k+1=>Jh x l k+(ZO x (nth l k)).miles
def Jl (x:Inst) (l:List Rte):Nat->Int
 | 0=>0
 | k+1=>Jl x l k+((ZO x (nth l k)).fin-(ZK x (nth l k)).opn)
def Jj (x:Inst) (l:List Rte):Nat->Int
 | 0=>0
 | k+1=>Jj x l k+JT (ZO x (nth l k))
def Rf (x:Inst) (p:Pln):V:=if YF x p.routes=0 then .tup [.p (.int .i64 (Jh x p.routes p.routes.length)),.p (.int .i64 (Jl x p.routes p.routes.length)),.p (.int .i64 (Jj x p.routes p.routes.length)),.p (.int .i64 0)] else .tup [.p (.int .i64 0),.p (.int .i64 0),.p (.int .i64 0),.p (.int .i64 (YF x p.routes))]
theorem DT {x:Inst} {r:Rte} (hx:InstOk x) (h:ZE x r=0):(0<=r.typ/\r.typ<(x.types.length:Int))/\0<=(ZK x r).opn/\(ZK x r).opn<=4096:=by
 obtain ⟨hty,h0,hs⟩:=Ys (XL h);have:=(Y5 hx hty (XC h0)).opn;exact ⟨hty,Za,Za⟩
theorem JU {s:She} (h:s.times.length<=1048576):0<=JT s/\JT s<=1048577:=by
 have:=List.countP_le_length (p:=UL) (l:=s.times);unfold JT
 split<;>omega
theorem Ma {x:Inst} {l:List Rte} {k:Nat} (hx:InstOk x) (hz: ∀j,j<k->ZE x (nth l j)=0) (hv: ∀j,j<k->(nth l j).visits.length<=1048576) :
  (0<=Jh x l k/\Jh x l k<=210000*k)/\(-(4096*(k:Int))<=Jl x l k/\Jl x l k<=8192*k)/\(0<=Jj x l k/\Jj x l k<=1048577*k):=by
 induction k with
 | zero=>simp [Jh,Jl,Jj]
 | succ k ih =>
  obtain ⟨i1,i2,i3⟩:=ih (fun j hj=>hz j Za) (fun j hj=>hv j Za);have h1:=Ao hx (hz k Za);have h2:=DT hx (hz k Za);have h3:=JU (s:=ZO x (nth l k)) (by rw [W3 (hz k Za)];exact hv k Za);simp only [Jh,Jl,Jj];omega
theorem EH (x:Inst) (p:Pln) (hx:InstOk x) (hr:p.routes.length<=1048576) (hb: ∀r∈p.routes,Hv r) :
  ACalls Tryz.prog 30 [.p (XU x),.p (Ep p)] [] fun y H'=>y=Rf x p/\H'= []:=by
 refine Ze [] Tryz.func30 rfl cG ?_;have ct:=Wn x p hx hr hb;unfold Rf
 by_cases h0:YF x p.routes=0
 ·simp only [if_pos h0] at ct ⊢;have hz: ∀j,j<p.routes.length->ZE x (nth p.routes j)=0:=fun j hj=>Am.1 h0 _ (Zr hj);simp (disch:=omega) only [Tryz.f30,go_sem,seval];refine ZV ct ?_;have hl:=X0 (x:=x) (l:=p.routes) (k:=p.routes.length);simp (disch:=omega) only [hl,go_sem,seval];refine Zo [2,24,25] (fun k:Nat=> [(10,.p (.int .i64 (Jh x p.routes k))),(11,.p (.int .i64 (Jl x p.routes k))),(12,.p (.int .i64 (Jj x p.routes k))),(26,.p (.int .i64 k))]) (fun k=> [Zl x,Xx p]) (fun k=>k<=p.routes.length) (fun k=>p.routes.length-k) 0 Zb (Weak.mk ?_) ?_
  ·simp (disch:=omega) only [Zl,Xx,Jh,Jl,Jj,go_sem,seval]
  ·intro k hk;simp (disch:=omega) only [Zl,Xx,go_sem,seval];refine cD ?_ ?_<;>intro h1<;>simp (disch:=omega) only [Sh.out h1,go_sem,seval]
   ·have hk2:k<p.routes.length:=Za
    have hat:=KP (x:=x) (l:=p.routes) hk2;obtain ⟨r1,r2,r3⟩:=Ma (l:=p.routes) (k:=k) hx (fun j hj=>hz j Za) (fun j hj=>(hb _ (Zr Za)).1);have h4:=Ao hx (hz k hk2);have h5:=DT hx (hz k hk2);have hlen:=W3 (hz k hk2);have hvl:=(hb _ (Zr hk2)).1;have h6:=JU (s:=ZO x (nth p.routes k)) Za;have hty:(ZK x (nth p.routes k))=nth x.types (nth p.routes k).typ.toNat:=rfl;rw [hty] at h5;simp (disch:=omega) only [hat,Wz,go_sem,seval];refine Z7 13 mixed Zh Zh ?_;simp (disch:=omega) only [go_sem,seval]
    refine (GJ (ZO x (nth p.routes k)) Za).use ?_;simp (disch:=omega) only [go_sem,seval];refine ⟨k+1,Za,Za,Weak.mk ?_⟩;simp (disch:=omega) only [Zl,Xx,Jh,Jl,Jj,hty,go_sem,seval]
   ·have hkl:k=p.routes.length:=Za
    subst hkl;exact we
 ·simp only [if_neg h0] at ct ⊢;simp (disch:=omega) only [Tryz.f30,go_sem,seval];refine ZV ct ?_;simp (disch:=omega) only [go_sem,seval];refine cD ?_ ?_<;>intro h1<;>simp (disch:=omega) only [Sh.out h1,go_sem,seval]
  ·exact we
  ·omega
def Bj (x:Inst) (now:Int) (r:Row):Bool:=decide (r.tm.beg<=now)&&decide (now<r.tm.beg+(stopV x r.v).serv)
def Fk (x:Inst) (now:Int) (l:List Rte):Nat->Int
 | 0=>0
 | k+1=>Fk x now l k+(if Qf (ZO x (nth l k)) now=true then 1 else 0)
theorem C8 {x now l} : ∀k,0<=Fk x now l k/\Fk x now l k<=(k:Int)
 | 0=>by simp [Fk]
 | k+1=>by have:=C8 (x:=x) (now:=now) (l:=l) k;rw [Fk];split<;>omega
def aV (x:Inst) (p:Pln) (now:Int):V :=
 if now<0\/4096<now then .tup [.p (.list true []),.p (.int .i64 0),.p (.int .i64 2)]
 else if YF x p.routes=0 then .tup [.p (.list false (((Yy x p.routes p.routes.length).filter (Bj x now)).map X4)),.p (.int .i64 (Fk x now p.routes p.routes.length)),.p (.int .i64 0)]
 else .tup [.p (.list true []),.p (.int .i64 0),.p (.int .i64 (YF x p.routes))]
structure RowOk (x:Inst) (r:Row):Prop where
 inr:inB x r.v=true
 plc:0<=(stopV x r.v).place
 beg:0<=r.tm.beg/\r.tm.beg<=4096
 srv:0<=(stopV x r.v).serv/\(stopV x r.v).serv<=4096
theorem Fb {x:Inst} {l:List Vis} {k:Nat} (h:k<l.length):nth (Xa x l) k=stopV x (nth l k):=by
 rw [Zg (by rw [ZH];exact h),Zg h];simp [Xa]
theorem Lm {x:Inst} {i:Nat} {r:Rte} {q:Nat} (hx:InstOk x) (h:ZE x r=0) (hq:q<r.visits.length):RowOk x (Ws x i r q):=by
 obtain ⟨hty,hsq,_⟩:=Ys (XL h);have hvis:=(XC hsq).vis (Zr hq);simp only [Fc,Bool.and_eq_true,decide_eq_true_eq] at hvis;have hs:=(F7 hx h).seg q (by rw [ZH];exact hq);have hT:=(Y5 hx hty (XC hsq)).stp _ (Zr (show q<(Xa x r.visits).length by rw [ZH];exact hq));rw [Fb hq] at hT;exact ⟨hvis.1,hvis.2,by simp only [Ws];omega,by simp only [Ws];omega⟩
theorem bG {α:Type} {f:α->Bool} {l:List α} {a:α} :(l++ [a]).filter f=l.filter f++if f a=true then [a] else []:=by
 rw [List.filter_append];congr 1
 by_cases h:f a=true
 ·simp [h]
 ·simp [h]
def Vr (x:Inst) (now:Int) (l:List Rte) (k q:Nat):List Row:=(QB x l k q).filter (Bj x now)
theorem GM {x now l k} :Vr x now l k (nth l k).visits.length=(Yy x l (k+1)).filter (Bj x now):=by rw [Vr,GK]
theorem JF {x now l k} :Vr x now l k 0=(Yy x l k).filter (Bj x now):=by rw [Vr,EJ]
theorem EK {x now l k q} :Vr x now l k (q+1)=Vr x now l k q++if Bj x now (Ws x k (nth l k) q)=true then [Ws x k (nth l k) q] else []:=by rw [Vr,EI,bG];rfl
theorem GN {x now l k q} :(Vr x now l k q).length<=(Yy x l k).length+q:=by
 have:=List.length_filter_le (Bj x now) (QB x l k q);rw [GL] at this;exact this
theorem MN (x:Inst) (p:Pln) (now:Int) (hx:InstOk x) (hr:p.routes.length<=1048576) (hb: ∀r∈p.routes,Hv r) :
  ACalls Tryz.prog 29 [.p (XU x),.p (Ep p),.p (.int .i64 now)] [] fun y H'=>y=aV x p now/\H'= []:=by
 refine Ze [7,21] Tryz.func29 rfl cF ?_;have ct:=Wn x p hx hr hb;have hn:=MP hx;simp (disch:=omega) only [Tryz.f29,go_sem,seval]
 by_cases hnow:now<0\/4096<now
 ·rw [aV,if_pos hnow];refine gF ?_ ?_<;>intro h1<;>simp (disch:=omega) only [Sh.out h1,go_sem,seval]
  ·exact we
  ·refine cD ?_ ?_<;>intro h2<;>simp (disch:=omega) only [Sh.out h2,go_sem,seval]
   ·exact we
   ·omega
 ·rw [aV,if_neg hnow];refine gF ?_ ?_<;>intro h1<;>simp (disch:=omega) only [Sh.out h1,go_sem,seval]
  ·omega
  ·refine cD ?_ ?_<;>intro h2<;>simp (disch:=omega) only [Sh.out h2,go_sem,seval]
   ·omega
   ·by_cases h0:YF x p.routes=0
    ·simp only [if_pos h0] at ct ⊢;have hz: ∀j,j<p.routes.length->ZE x (nth p.routes j)=0:=fun j hj=>Am.1 h0 _ (Zr hj);refine ZV ct ?_;simp (disch:=omega) only [go_sem,seval];refine Zp (Weak.nil 11 9 (by rfl) Zb) ?_;refine Zc [21] _ _ _ _ ?_;have hl:=X0 (x:=x) (l:=p.routes) (k:=p.routes.length);simp (disch:=omega) only [List.set_cons_succ,List.set_cons_zero,List.cons_append,List.nil_append,List.length_cons,List.length_nil,hl,go_sem,seval];refine Zo [2,3,34,35] (fun k:Nat=> [(11,.sl 2 0 (Vr x now p.routes k 0).length (Vr x now p.routes k 0).length),(12,.p (.int .i64 (Fk x now p.routes k))),(36,.p (.int .i64 k))]) (fun k=> [Zl x,Xx p,.elems 9 ((Vr x now p.routes k 0).map X4)]) (fun k=>k<=p.routes.length) (fun k=>p.routes.length-k) 0 Zb (Weak.mk ?_) ?_
     ·simp (disch:=omega) only [Zl,Xx,Vr,QB,Yy,Xp,List.range_zero,List.map_nil,List.flatten_nil,List.append_nil,List.filter_nil,List.length_nil,Fk,go_sem,seval]
     ·intro k hk;simp (disch:=omega) only [Zl,Xx,go_sem,seval];refine cD ?_ ?_<;>intro h3<;>simp (disch:=omega) only [Sh.out h3,go_sem,seval]
      ·have hk2:k<p.routes.length:=Za
       have hat:=KP (x:=x) (l:=p.routes) hk2;have hz0:=hz k hk2;have hml:(Yy x p.routes k).length<=1048576*k:=AF fun i hi=>(hb _ (Zr Za)).1;have hvl:=(hb _ (Zr hk2)).1;have htl:=W3 hz0;have haw:=C8 (x:=x) (now:=now) (l:=p.routes) k;have hrl:=ZW (x:=x) (i:=k) (r:=nth p.routes k) (k:=(nth p.routes k).visits.length);simp (disch:=omega) only [hat,Wz,go_sem,seval];simp (disch:=omega) only [hrl,go_sem,seval];refine Zo [2,3,12,14,34,35,36,41,42] (fun q:Nat=> [(11,.sl 2 0 (Vr x now p.routes k q).length (Vr x now p.routes k q).length),(43,.p (.int .i64 q))]) (fun q=> [Zl x,Xx p,.elems 9 ((Vr x now p.routes k q).map X4),Q4 (Wz x k (nth p.routes k))]) (fun q=>q<=(nth p.routes k).visits.length) (fun q=>(nth p.routes k).visits.length-q) 0 Zb (Weak.mk ?_) ?_
       ·simp (disch:=omega) only [Zl,Xx,Q4,Wz,go_sem,seval]
       ·intro q hq;simp (disch:=omega) only [Zl,Xx,Q4,Wz,go_sem,seval];refine cD ?_ ?_<;>intro h4<;>simp (disch:=omega) only [Sh.out h4,go_sem,seval]
        ·have hq2:q<(nth p.routes k).visits.length:=Za
         have hro:=Lm (i:=k) hx hz0 hq2
         have hra:nth (Xp x k (nth p.routes k) (nth p.routes k).visits.length) q=Ws x k (nth p.routes k) q:=by rw [Zg (by rw [ZW];exact hq2)];simp [Xp]
         have hms:=EK (x:=x) (now:=now) (l:=p.routes) (k:=k) (q:=q);have hsl:=GN (x:=x) (now:=now) (l:=p.routes) (k:=k) (q:=q)
         generalize Ws x k (nth p.routes k) q=w at *
         obtain ⟨w1,w2,w3,w4⟩:=hro;simp (disch:=omega) only [hrl,hra,go_sem,seval];refine ZV (KE x w.v Za w1 w2) ?_;simp (disch:=omega) only [go_sem,seval];have hsd:Bj x now w=(decide (w.tm.beg<=now)&&decide (now<w.tm.beg+(stopV x w.v).serv)):=rfl;refine gT ?_ ?_<;>intro h5<;>simp (disch:=omega) only [Sh.out h5,go_sem,seval]
         ·refine cD ?_ ?_<;>intro h6<;>simp (disch:=omega) only [Sh.out h6,go_sem,seval]
          ·rw [hsd,if_pos (by simp [h5,h6])] at hms;refine ⟨q+1,Za,Za,Weak.mk ?_⟩;simp (disch:=omega) only [Zl,Xx,Q4,Wz,hms,List.map_append,List.map_cons,List.map_nil,List.length_append,List.length_cons,List.length_nil,go_sem,seval]
          ·rw [hsd,if_neg (by simp [h6]),List.append_nil] at hms;exact ⟨q+1,Za,Za,Weak.mk (by simp (disch:=omega) only [Zl,Xx,Q4,Wz,hms,go_sem,seval])⟩
         ·rw [hsd,if_neg (by simp [h5]),List.append_nil] at hms;exact ⟨q+1,Za,Za,Weak.mk (by simp (disch:=omega) only [Zl,Xx,Q4,Wz,hms,go_sem,seval])⟩
        ·have hql:q=(nth p.routes k).visits.length:=Za
         subst hql;have hma:=GM (x:=x) (now:=now) (l:=p.routes) (k:=k);rw [<- JF] at hma;refine (NB (Wz x k (nth p.routes k)) now (by simp only [Wz];omega) (by simp only [Wz];omega) (fun i hi=> ?_)).use ?_
         ·simp only [Wz,ZW] at hi ⊢;rw [Zg (by rw [ZW];exact hi)];simp [Xp,Ws]
         ·have hawe:Qf (Wz x k (nth p.routes k)).she now=Qf (ZO x (nth p.routes k)) now:=rfl;rw [hawe];have hnx:Fk x now p.routes (k+1)=Fk x now p.routes k+(if Qf (ZO x (nth p.routes k)) now=true then 1 else 0):=rfl
          generalize Qf (ZO x (nth p.routes k)) now=a at *
          cases a
          ·simp (disch:=omega) only [go_sem,seval];rw [if_neg Zb] at hnx;exact ⟨k+1,Za,Za,Weak.mk (by simp (disch:=omega) only [Zl,Xx,hnx,<- hma,Int.add_zero,go_sem,seval])⟩
          ·simp (disch:=omega) only [go_sem,seval];rw [if_pos rfl] at hnx;exact ⟨k+1,Za,Za,Weak.mk (by simp (disch:=omega) only [Zl,Xx,hnx,<- hma,go_sem,seval])⟩
      ·have hkl:k=p.routes.length:=Za
       subst hkl;rw [JF];refine Zp (Weak.fz (o:=2) (by rfl)) ?_;refine Zc [] _ _ _ _ ?_;simp (disch:=omega) only [List.map_cons,List.map_nil,List.set_cons_succ,List.set_cons_zero,Zl,Xx,List.length_map,eq_self,go_sem,seval];rw [if_pos h0];exact we
    ·simp only [if_neg h0] at ct ⊢;refine ZV ct ?_;simp (disch:=omega) only [go_sem,seval];refine cD ?_ ?_<;>intro h1<;>simp (disch:=omega) only [Sh.out h1,go_sem,seval]
     ·exact we
     ·omega
end Go.Proofs.YtmbelkfkhclnkaaGreatDoor.K
