/- Declarations that the closing texts need, part 12: joined by tools/slim.py. -/
import Derived.Test.YtmbelkfkhclnkaaGreatDoorYT11
import Derived.Test.YtmbelkfkhclnkaaGreatDoorRows
set_option linter.unusedVariables false
set_option linter.unusedSimpArgs false
namespace Go.Proofs.YtmbelkfkhclnkaaGreatDoor.K
open Go Go.AM Go.Proofs
mutual
theorem Bz {H:Type} :(d:DataW H)->QT d<=Rows.uptoBulk d
 | .lit l=>by cases l<;>simp [QT,Rows.uptoBulk]
 | .nil=>by simp [QT,Rows.uptoBulk]
 | .ptr d=>by have:=Bz d;simp only [QT,Rows.uptoBulk];omega
 | .slice es sp=>by have:=VC es;have:=VC sp;simp only [QT,Rows.uptoBulk];omega
 | .agg ps=>by have:=VC ps;simp only [QT,Rows.uptoBulk];omega
 | .iface _ d=>by have:=Bz d;simp only [QT,Rows.uptoBulk];omega
 | .map es=>by simp only [QT,Rows.uptoBulk];omega
 | .held h=>by simp [QT,Rows.uptoBulk]
theorem VC {H:Type} :(l:List (DataW H))->WD l<=Rows.uptoBulkAll l
 | []=>by simp [WD,Rows.uptoBulkAll]
 | d::r=>by have:=Bz d;have:=VC r;simp only [WD,Rows.uptoBulkAll];omega
end
theorem Ch {H:Type} {l:List (DataW H)} (h:Rows.uptoSmall H l=true):WD l<=1048576:=by
 have h1:=VC l;have h2:Rows.uptoBulkAll l<=1048576:=of_decide_eq_true h;omega
abbrev eR (n:Int):Prop:= -9223372036854775808<=n/\n<=9223372036854775807
def eI (n:Int):PV:= .int .i64 n
def eB (b:Bool):PV:= .bool b
def eS (s:List UInt8):PV:= .str s
def eP (p:Int×Int):PV:= .agg [.int .i64 p.1,.int .i64 p.2]
@[go_sem] theorem nQ (n:Int):eI n= .int .i64 n:=Eq.trans rfl rfl
@[go_sem] theorem nP (b:Bool):eB b= .bool b:=Eq.trans rfl rfl
@[go_sem] theorem nS (s:List UInt8):eS s= .str s:=Eq.trans rfl rfl
@[go_sem] theorem nR (p:Int×Int):eP p= .agg [.int .i64 p.1,.int .i64 p.2]:=Eq.trans rfl rfl
@[go_sem] theorem eX (l:List Bool):U4 1 (l.map eB)=true:=Vw (f:=eB) (S:=1) (fun _=>rfl) l
structure Pt where
 t:Int
 a:Int
 deriving Inhabited
def DZ (x:Pt):PV:= .agg [.int .i64 x.t,.int .i64 x.a]
@[go_sem] theorem jI (x:Pt):DZ x= .agg [.int .i64 x.t,.int .i64 x.a]:=Eq.trans rfl rfl
structure Arc where
 src:Int
 dst:Int
 prof:Int
 miles:Int
 travel_c:Bool
 travel:List (Pt)
 slow_c:Bool
 slow:List (Pt)
 deriving Inhabited
def VD (x:Arc):PV:= .agg [.int .i64 x.src,.int .i64 x.dst,.int .i64 x.prof,.int .i64 x.miles,.list x.travel_c (x.travel.map DZ),.list x.slow_c (x.slow.map DZ)]
@[go_sem] theorem fF (x:Arc):VD x= .agg [.int .i64 x.src,.int .i64 x.dst,.int .i64 x.prof,.int .i64 x.miles,.list x.travel_c (x.travel.map DZ),.list x.slow_c (x.slow.map DZ)]:=Eq.trans rfl rfl
structure Net where
 places_c:Bool
 places:List (List UInt8)
 arcs_c:Bool
 arcs:List (Arc)
 deriving Inhabited
def Io (x:Net):PV:= .agg [.list x.places_c (x.places.map eS),.list x.arcs_c (x.arcs.map VD)]
@[go_sem] theorem fH (x:Net):Io x= .agg [.list x.places_c (x.places.map eS),.list x.arcs_c (x.arcs.map VD)]:=Eq.trans rfl rfl
structure Typ where
 name:List UInt8
 count:Int
 src:Int
 dst:Int
 cap_c:Bool
 cap:List (Int)
 skills:Int
 prof:Int
 opn:Int
 cls:Int
 drive:Int
 rest:Int
 fixed:Int
 perMile:Int
 perTick:Int
 deriving Inhabited
def Q0 (x:Typ):PV:= .agg [.str x.name,.int .i64 x.count,.int .i64 x.src,.int .i64 x.dst,.list x.cap_c (x.cap.map eI),.int .i64 x.skills,.int .i64 x.prof,.int .i64 x.opn,.int .i64 x.cls,.int .i64 x.drive,.int .i64 x.rest,.int .i64 x.fixed,.int .i64 x.perMile,.int .i64 x.perTick]
@[go_sem] theorem fQ (x:Typ):Q0 x= .agg [.str x.name,.int .i64 x.count,.int .i64 x.src,.int .i64 x.dst,.list x.cap_c (x.cap.map eI),.int .i64 x.skills,.int .i64 x.prof,.int .i64 x.opn,.int .i64 x.cls,.int .i64 x.drive,.int .i64 x.rest,.int .i64 x.fixed,.int .i64 x.perMile,.int .i64 x.perTick]:=Eq.trans rfl rfl
structure Stp where
 place:Int
 opn:Int
 cls:Int
 serv:Int
 deriving Inhabited
def BA (x:Stp):PV:= .agg [.int .i64 x.place,.int .i64 x.opn,.int .i64 x.cls,.int .i64 x.serv]
@[go_sem] theorem fN (x:Stp):BA x= .agg [.int .i64 x.place,.int .i64 x.opn,.int .i64 x.cls,.int .i64 x.serv]:=Eq.trans rfl rfl
structure Ord where
 name:List UInt8
 load_c:Bool
 load:List (Int)
 pick:Stp
 drp:Stp
 skills:Int
 penalty:Int
 split:Int
 last:Int
 now:Int
 off:Bool
 deriving Inhabited
def Wr (x:Ord):PV:= .agg [.str x.name,.list x.load_c (x.load.map eI),.int .i64 x.pick.place,.int .i64 x.pick.opn,.int .i64 x.pick.cls,.int .i64 x.pick.serv,.int .i64 x.drp.place,.int .i64 x.drp.opn,.int .i64 x.drp.cls,.int .i64 x.drp.serv,.int .i64 x.skills,.int .i64 x.penalty,.int .i64 x.split,.int .i64 x.last,.int .i64 x.now,.bool x.off]
@[go_sem] theorem fI (x:Ord):Wr x= .agg [.str x.name,.list x.load_c (x.load.map eI),.int .i64 x.pick.place,.int .i64 x.pick.opn,.int .i64 x.pick.cls,.int .i64 x.pick.serv,.int .i64 x.drp.place,.int .i64 x.drp.opn,.int .i64 x.drp.cls,.int .i64 x.drp.serv,.int .i64 x.skills,.int .i64 x.penalty,.int .i64 x.split,.int .i64 x.last,.int .i64 x.now,.bool x.off]:=Eq.trans rfl rfl
structure Inst where
 net:Net
 types_c:Bool
 types:List (Typ)
 orders_c:Bool
 orders:List (Ord)
 apart_c:Bool
 apart:List (Int×Int)
 before_c:Bool
 before:List (Int×Int)
 deriving Inhabited
def XQ (x:Inst):PV:= .agg [.list x.net.places_c (x.net.places.map eS),.list x.net.arcs_c (x.net.arcs.map VD),.list x.types_c (x.types.map Q0),.list x.orders_c (x.orders.map Wr),.list x.apart_c (x.apart.map eP),.list x.before_c (x.before.map eP)]
@[go_sem] theorem TM (x:Inst):XQ x= .agg [.list x.net.places_c (x.net.places.map eS),.list x.net.arcs_c (x.net.arcs.map VD),.list x.types_c (x.types.map Q0),.list x.orders_c (x.orders.map Wr),.list x.apart_c (x.apart.map eP),.list x.before_c (x.before.map eP)]:=Eq.trans rfl rfl
structure Vis where
 order:Int
 drp:Bool
 deriving Inhabited
def ZR (x:Vis):PV:= .agg [.int .i64 x.order,.bool x.drp]
@[go_sem] theorem Iq (x:Vis):ZR x= .agg [.int .i64 x.order,.bool x.drp]:=Eq.trans rfl rfl
@[go_sem] theorem P3 (l:List Vis):U4 2 (l.map ZR)=true:=Vw (f:=ZR) (S:=2) (fun _=>rfl) l
structure Rte where
 typ:Int
 start:Int
 rests_c:Bool
 rests:List (Bool)
 visits_c:Bool
 visits:List (Vis)
 deriving Inhabited
def X1 (x:Rte):PV:= .agg [.int .i64 x.typ,.int .i64 x.start,.list x.rests_c (x.rests.map eB),.list x.visits_c (x.visits.map ZR)]
@[go_sem] theorem fK (x:Rte):X1 x= .agg [.int .i64 x.typ,.int .i64 x.start,.list x.rests_c (x.rests.map eB),.list x.visits_c (x.visits.map ZR)]:=Eq.trans rfl rfl
structure Tim where
 arr:Int
 beg:Int
 dep:Int
 rest:Bool
 deriving Inhabited
def eTim (x:Tim):PV:= .agg [.int .i64 x.arr,.int .i64 x.beg,.int .i64 x.dep,.bool x.rest]
@[go_sem] theorem fO (x:Tim):eTim x= .agg [.int .i64 x.arr,.int .i64 x.beg,.int .i64 x.dep,.bool x.rest]:=Eq.trans rfl rfl
@[go_sem] theorem bZ (l:List Tim):Q3 4 (l.map eTim)=true:=IW fun _=>rfl
structure She where
 rest:Bool
 dep:Int
 times_c:Bool
 times:List (Tim)
 fin:Int
 miles:Int
 deriving Inhabited
def D0 (x:She):PV:= .agg [.bool x.rest,.int .i64 x.dep,.list x.times_c (x.times.map eTim),.int .i64 x.fin,.int .i64 x.miles]
@[go_sem] theorem fM (x:She):D0 x= .agg [.bool x.rest,.int .i64 x.dep,.list x.times_c (x.times.map eTim),.int .i64 x.fin,.int .i64 x.miles]:=Eq.trans rfl rfl
structure Sco where
 cost:Int
 moved:Int
 other:Int
 work:Int
 deriving Inhabited
def Ip (x:Sco):PV:= .agg [.int .i64 x.cost,.int .i64 x.moved,.int .i64 x.other,.int .i64 x.work]
@[go_sem] theorem fL (x:Sco):Ip x= .agg [.int .i64 x.cost,.int .i64 x.moved,.int .i64 x.other,.int .i64 x.work]:=Eq.trans rfl rfl
structure Pln where
 routes_c:Bool
 routes:List (Rte)
 unserved_c:Bool
 unserved:List (Int)
 deriving Inhabited
def Qg (x:Pln):PV:= .agg [.list x.routes_c (x.routes.map X1),.list x.unserved_c (x.unserved.map eI)]
@[go_sem] theorem fJ (x:Pln):Qg x= .agg [.list x.routes_c (x.routes.map X1),.list x.unserved_c (x.unserved.map eI)]:=Eq.trans rfl rfl
theorem own : ownKnob Tryz.prog.godebug=none:=Zh
theorem IF : laidOutB Tryz.prog=true:=Zh
def QS (n:Nat):List UInt8:=if h:n<10 then [UInt8.ofNat (48+n)] else QS (n / 10)++ [UInt8.ofNat (48+n%10)]
termination_by n
decreasing_by omega
theorem By : ∀(d n:Nat),n<10^(d+1)->(QS n).length<=d+1:=by
 intro d
 induction d with
 | zero=>simp_all [QS]
 | succ d ih =>
  grind [QS]
def Uc (n:Int):List UInt8:=if n<0 then 45::QS n.natAbs else QS n.natAbs
theorem Fx (n:Int) (h:eR n):(Uc n).length<=20:=by
 have h1:n.natAbs<10^(18+1):=Za
 have:=By 18 n.natAbs h1
 grind [Uc]
theorem Zn {p:Nat->Prop} {k:Nat} :(∀j,j<k+1->p j)↔((∀j,j<k->p j)/\p k) :=
 ⟨fun h=>⟨fun j hj=>h j Za,h k Za⟩,fun h j hj=>by
  grind⟩
def W2 (c:UInt8):Bool:=decide (48<=c.toNat/\c.toNat<=57)
def Gb (c:UInt8):Bool:=decide (97<=c.toNat/\c.toNat<=122)||decide (65<=c.toNat/\c.toNat<=90)||decide (c.toNat=95)
def nameOk (s:List UInt8):Bool:=decide (1<=s.length)&&decide (s.length<=16)&& !W2 (nth s 0)&&s.all fun c=>Gb c||W2 c
def rng (n lo hi:Int):Bool:=decide (lo<=n/\n<=hi)
def Pp (n:Int):Bool:=rng n 0 4096
def kR (l:List Pt) (i:Nat):Prop:=(0<=(nth l i).t/\(nth l i).t<=4096/\(nth l i).t<=(nth l i).a/\(nth l i).a<=(nth l i).t+4096)/\(0<i->(nth l (i-1)).t<(nth l i).t/\(nth l (i-1)).a<=(nth l i).a)
def Wp (l:List Pt):Prop:=(1<=l.length/\l.length<=16)/\ ∀i,i<l.length->kR l i
def Hc (l:List Pt) (i:Nat):Prop:=Pp (nth l i).t=true/\Pp (nth l i).a=true/\(0<i->(nth l (i-1)).t<(nth l i).t)
def LL (n:Net) (i:Nat):Prop :=
 ((((((0<=(nth n.arcs i).src/\(nth n.arcs i).src<n.places.length/\0<=(nth n.arcs i).dst/\(nth n.arcs i).dst<n.places.length) /\
 (0<=(nth n.arcs i).prof/\(nth n.arcs i).prof<=7/\0<=(nth n.arcs i).miles/\(nth n.arcs i).miles<=10000/\(nth n.arcs i).src≠(nth n.arcs i).dst)) /\
 (∀k,k<i-> ¬((nth n.arcs i).src=(nth n.arcs k).src/\(nth n.arcs i).dst=(nth n.arcs k).dst/\(nth n.arcs i).prof=(nth n.arcs k).prof))) /\
 Wp (nth n.arcs i).travel)/\(nth n.arcs i).slow.length<=16)/\ ∀k,k<(nth n.arcs i).slow.length->Hc (nth n.arcs i).slow k)
def kP (n:Net) (i:Nat):Prop:=nameOk (nth n.places i)=true/\ ∀k,k<i->nth n.places k≠nth n.places i
def GQ (n:Net):Prop:=n.places.length<=24/\ ∀i,i<n.places.length->kP n i
def netOk (n:Net):Prop:=(GQ n/\n.arcs.length<=1024)/\ ∀i,i<n.arcs.length->LL n i
set_option maxRecDepth 8000
set_option maxHeartbeats 4000000
theorem Il (c:UInt8):PC 120 [.p (.int .u8 (c.toNat:Nat))] (.bool (W2 c)):=by
 refine Zc Tryz.func120 rfl NA ?_;simp (disch:=omega) only [Tryz.f120,go_sem,seval];refine gT ?_ ?_<;>intro h<;>simp (disch:=omega) only [Sh.out h,go_sem,seval,↓reduceIte]
 all_goals (simp [W2];first | done | omega | grind)
set_option maxHeartbeats 8000000
def OU (n:Net):List AM.Obj:= [.cells [.p (.list n.places_c (n.places.map eS)),.p (.list n.arcs_c (n.arcs.map VD))]]
set_option maxHeartbeats 16000000
def DG (a:Arc):AM.Obj:= .cells [.p (.int .i64 a.src),.p (.int .i64 a.dst),.p (.int .i64 a.prof),.p (.int .i64 a.miles),.p (.list a.travel_c (a.travel.map DZ)),.p (.list a.slow_c (a.slow.map DZ))]
theorem Xb {α:Type} [Inhabited α] {l:List α} {i:Nat} (h:i<l.length):nth l i∈l:=by grind [Zg]
end Go.Proofs.YtmbelkfkhclnkaaGreatDoor.K
namespace Go.Proofs.YtmbelkfkhclnkaaGreatDoor.K
section
variable {L : Type} (fin : L -> Int) (beats : L -> L -> Bool) (nxt : Nat -> L -> Bool -> Option L) (choices : Nat -> List Bool)
def Yz : Option L->List L->Option L
 | b,[]=>b
 | none,x::l=>Yz (some x) l
 | some m,x::l=>if fin x<fin m then Yz (some x) l else Yz (some m) l
theorem W0 : ∀(b:Option L) (l r:List L),Yz fin b (l++r)=Yz fin (Yz fin b l) r
 | b,[],r=>by rfl
 | none,x::l,r=>by rw [List.cons_append,Yz,Yz,W0]
 | some m,x::l,r=>by
  rw [List.cons_append,Yz,Yz]
  split
  ·rw [W0]
  ·rw [W0]
theorem WG : ∀(l:List L) (m:L),∃z,Yz fin (some m) l=some z/\fin z<=fin m/\ ∀y∈l,fin z<=fin y
 | [],m=>⟨m,rfl,Za,Zb⟩
 | x::l,m=>by
  rw [Yz]
  split
  ·rename_i h;obtain ⟨z,e,h1,h2⟩:=WG l x
   grind
  ·rename_i h;obtain ⟨z,e,h1,h2⟩:=WG l m
   grind
theorem Ad : ∀(l:List L) (m:L),(∀y∈l,fin m<=fin y)->Yz fin (some m) l=some m
 | [],m,_=>rfl
 | x::l,m,h=>by
  have:=h x List.mem_cons_self;rw [Yz,if_neg Za];exact Ad l m fun y hy=>h y (List.mem_cons_of_mem _ hy)
theorem D3 (A B:List L) (h: ∀y∈B,∃z∈A,fin z<=fin y):Yz fin none (A++B)=Yz fin none A:=by
 rw [W0]
 cases A with
 | nil=>cases B with
  | nil=>rfl
  | cons y B=>grind [List.mem_cons_self]
 | cons a A =>
  rw [Yz];obtain ⟨z,e,h1,h2⟩:=WG fin A a;rw [e];refine Ad fin B z fun y hy=> ?_
  grind
def ZM : List L->List L->List L
 | out,[]=>out
 | out,x::l=>if out.any (fun m=>beats m x)=true then ZM out l else ZM (out++ [x]) l
theorem Ud {R:L->List L} : ∀(c out:List L),(∀x∈out++c,∀m∈out++c,beats m x=true-> ∀y∈R x,∃z∈R m,fin z<=fin y)->Yz fin none ((ZM beats out c).flatMap R)=Yz fin none ((out++c).flatMap R)
 | [],out,_=>by simp [ZM]
 | x::c,out,h=>by
  rw [ZM]
  split
  ·rename_i hb;obtain ⟨m,hm,hb⟩:=List.any_eq_true.1 hb
   have hb:beats m x=true:=by simpa using hb
   rw [Ud c out (fun a ha b hb=>h a (by simp only [List.mem_append,List.mem_cons] at ha ⊢;rcases ha with h | h<;>simp [h]) b (by simp only [List.mem_append,List.mem_cons] at hb ⊢;rcases hb with h | h<;>simp [h]))];rw [List.flatMap_append,List.flatMap_append,List.flatMap_cons,<- List.append_assoc,W0,W0 (l:=out.flatMap R++R x)];rw [D3 fin (out.flatMap R) (R x)];intro y hy;obtain ⟨z,hz,hle⟩:=h x Zb m (by simp [hm]) hb y hy;exact ⟨z,List.mem_flatMap.2 ⟨m,hm,hz⟩,hle⟩
  ·rw [Ud c (out++ [x]) (by simpa using h)];simp
theorem W5 : ∀(c out:List L),∀x∈ZM beats out c,x∈out++c
 | [],out,x,h=>by grind [ZM]
 | a::c,out,x,h=>by
  rw [ZM] at h
  split at h
  ·have:=W5 c out x h;simp only [List.mem_append,List.mem_cons] at this ⊢;rcases this with h | h<;>simp [h]
  ·have:=W5 c (out++ [a]) x h;simpa using this
def Kg : Nat->Nat->List (List Bool)
 | 0,_=> [[]]
 | j+1,k=>(choices k).flatMap fun b=>(Kg j (k+1)).map (b:: ·)
def Vs : Nat->L->List Bool->Option L
 | _,x,[]=>some x
 | k,x,b::bs=>match nxt k x b with
  | some y=>Vs (k+1) y bs
  | none=>none
def XO (j k:Nat) (x:L):List L:=(Kg choices j k).filterMap (Vs nxt k x)
def XB (k:Nat) (l:List L):List L:=l.flatMap fun x=>(choices k).filterMap (nxt k x)
def Wn : Nat->Nat->List L->List L
 | 0,_,l=>l
 | j+1,k,l=>Wn j (k+1) (ZM beats [] (XB nxt choices k l))
theorem B3 (k:Nat) (x:L):XO nxt choices 0 k x= [x]:=rfl
theorem QF (j k:Nat) (x:L):XO nxt choices (j+1) k x=((choices k).filterMap (nxt k x)).flatMap (XO nxt choices j (k+1)):=by
 unfold XO;rw [Kg]
 induction choices k with
 | nil=>rfl
 | cons b bs ih =>
  rw [List.flatMap_cons,List.filterMap_append,ih,List.filterMap_cons]
  cases h:nxt k x b with
  | none =>
   simp_all [Vs]
  | some y =>
   rw [List.filterMap_map]
   have:(Vs nxt k x∘fun l=>b::l)=Vs nxt (k+1) y:=by grind [Vs]
   grind
theorem JL {n:Nat} {Inv:Nat->L->Prop} (hI: ∀k x b y,Inv k x->nxt k x b=some y->Inv (k+1) y) (hd: ∀k m x b y,Inv k m->Inv k x->beats m x=true->nxt k x b=some y-> ∃z,nxt k m b=some z/\beats z y=true)
  (he: ∀m x,Inv n m->Inv n x->beats m x=true->fin m<=fin x): ∀(j k:Nat) (m x:L),k+j=n->Inv k m->Inv k x->beats m x=true-> ∀y∈XO nxt choices j k x,∃z∈XO nxt choices j k m,fin z<=fin y
 | 0,k,m,x,hk,h1,h2,hb,y,hy=>by
  grind [B3]
 | j+1,k,m,x,hk,h1,h2,hb,y,hy=>by
  rw [QF] at hy ⊢;obtain ⟨q,hq,hy⟩:=List.mem_flatMap.1 hy;obtain ⟨b,hbm,hn⟩:=List.mem_filterMap.1 hq;obtain ⟨z,hz,hzb⟩:=hd k m x b q h1 h2 hb hn;obtain ⟨u,hu,hle⟩:=JL hI hd he j (k+1) z q Za (hI k m b z h1 hz) (hI k x b q h2 hn) hzb y hy
  grind
theorem C1 {n:Nat} {Inv:Nat->L->Prop} (hI: ∀k x b y,Inv k x->nxt k x b=some y->Inv (k+1) y) (hd: ∀k m x b y,Inv k m->Inv k x->beats m x=true->nxt k x b=some y-> ∃z,nxt k m b=some z/\beats z y=true)
  (he: ∀m x,Inv n m->Inv n x->beats m x=true->fin m<=fin x): ∀(j k:Nat) (l:List L),k+j=n->(∀x∈l,Inv k x)->Yz fin none (Wn beats nxt choices j k l)=Yz fin none (l.flatMap (XO nxt choices j k))
 | 0,k,l,hk,hl=>by
  have:l.flatMap (XO nxt choices 0 k)=l:=by
   have:XO nxt choices 0 k=fun x=> [x]:=by rfl
   rw [this];simp
  rw [this];rfl
 | j+1,k,l,hk,hl=>by
  have hc: ∀x∈XB nxt choices k l,Inv (k+1) x:=fun x hx=>by
   obtain ⟨q,hq,hx⟩:=List.mem_flatMap.1 hx
   grind
  have e:l.flatMap (XO nxt choices (j+1) k)=(XB nxt choices k l).flatMap (XO nxt choices j (k+1)):=by
   rw [XB,List.flatMap_assoc]
   congr 1
   grind [QF]
  rw [Wn,C1 hI hd he j (k+1) _ Za (fun x hx=>hc x (by simpa using W5 beats _ _ x hx)),Ud fin beats _ _ (fun x hx m hm hb y hy=> ?_),e]
  ·simp
  ·exact JL fin beats nxt choices hI hd he j (k+1) m x Za (hc m (by grind)) (hc x (by grind)) hb y hy
def Xh : List Bool->List (List Bool)
 | []=> [[]]
 | b::bs=>if b then (Xh bs).map (true:: ·) else (Xh bs).map (false:: ·)++(Xh (List.replicate bs.length false)).map (true:: ·)
termination_by l => l.length
decreasing_by all_goals simp
def WN : List Bool->Option (List Bool)
 | []=>none
 | b::bs=>match WN bs with
  | some l=>some (b::l)
  | none=>if b then none else some (true::List.replicate bs.length false)
theorem Vp : ∀l:List Bool,Xh l=l::(match WN l with | some r=>Xh r | none=> [])
 | []=>by simp [Xh,WN]
 | b::bs=>by
  have ih:=Vp bs
  have e0: ∀l:List Bool,Xh (true::l)=(Xh l).map (true:: ·):=fun l=>by rw [Xh];simp
  have e1: ∀l:List Bool,Xh (false::l)=(Xh l).map (false:: ·)++(Xh (List.replicate l.length false)).map (true:: ·):=fun l=>by rw [Xh];simp
  cases b with
  | true =>
   rw [e0,ih,WN]
   cases h:WN bs with
   | none=>simp
   | some r=>simp [e0]
  | false =>
   rw [e1,ih,WN]
   cases h:WN bs with
   | none=>simp [e0]
   | some r =>
    have hl:r.length=bs.length:=nlen bs r h;simp [e1,hl]
where nlen : ∀(l r:List Bool),WN l=some r->r.length=l.length
 | [],r,h=>by simp [WN] at h
 | b::bs,r,h=>by
  rw [WN] at h
  cases h2:WN bs with
  | none =>
   grind
  | some q =>
   rw [h2] at h;simp at h;subst h;simp [nlen bs q h2]
theorem K9 {n:Nat} : ∀(j k:Nat),(∀q,k<=q->choices q= [false,true])->Kg choices j k=Xh (List.replicate j false)
 | 0,k,_=>by simp [Kg,Xh]
 | j+1,k,h=>by
  rw [Kg,h k (Nat.le_refl _),K9 (n:=n) j (k+1) (fun q hq=>h q Za),List.replicate_succ,Xh];simp
end
end Go.Proofs.YtmbelkfkhclnkaaGreatDoor.K
namespace Go.Proofs.YtmbelkfkhclnkaaGreatDoor.K
open Go Go.AM Go.Proofs
def Zj (x:Inst):AM.Obj:= .cells [.p (.list x.net.places_c (x.net.places.map eS)),.p (.list x.net.arcs_c (x.net.arcs.map VD)),.p (.list x.types_c (x.types.map Q0)),.p (.list x.orders_c (x.orders.map Wr)),.p (.list x.apart_c (x.apart.map eP)),.p (.list x.before_c (x.before.map eP))]
def zSco : Sco:=⟨0,0,0,0⟩
set_option maxRecDepth 8000
set_option maxHeartbeats 16000000
def Fl (l:List Int) (d:Int):Bool:=rng l.length 1 3&&decide ((l.length:Int)=d)&&l.all fun n=>rng n 0 1000
def dimsOf (l:List Typ):Int:=if l.length=0 then 0 else ((nth l 0).cap.length:Int)
def Pu (t:Typ):AM.Obj:= .cells [.p (.str t.name),.p (.int .i64 t.count),.p (.int .i64 t.src),.p (.int .i64 t.dst),.p (.list t.cap_c (t.cap.map eI)),.p (.int .i64 t.skills),.p (.int .i64 t.prof),.p (.int .i64 t.opn),.p (.int .i64 t.cls),.p (.int .i64 t.drive),.p (.int .i64 t.rest),.p (.int .i64 t.fixed),.p (.int .i64 t.perMile),.p (.int .i64 t.perTick)]
def Dr (n:Net) (l:List Typ) (i:Nat):Prop:=((((((((nameOk (nth l i).name=true)/\(∀j,j<i->(nth l j).name≠(nth l i).name))/\rng (nth l i).count 0 10=true)/\(rng (nth l i).src 0 (n.places.length-1)=true/\rng (nth l i).dst 0 (n.places.length-1)=true))/\Fl (nth l i).cap (dimsOf l)=true)/\rng (nth l i).skills 0 1073741823=true)/\(rng (nth l i).opn 0 (nth l i).cls=true/\(nth l i).cls<=4096))/\(rng (nth l i).drive 1 4096=true/\rng (nth l i).rest 0 4096=true))/\(rng (nth l i).prof 0 7=true/\rng (nth l i).fixed 0 100000=true/\rng (nth l i).perMile 0 100=true/\rng (nth l i).perTick 0 100=true)
def typesOk (n:Net) (l:List Typ):Prop:=rng l.length 1 6=true/\ ∀i,i<l.length->Dr n l i
def loadOk (l:List Int) (d:Int):Bool:=decide ((l.length:Int)=d)&&l.all fun n=>rng n 0 1000
def stpOk (s:Stp):Bool:=decide ((s.place= -1/\s.opn=0/\s.cls=0/\s.serv=0)\/(0<=s.place/\0<=s.opn/\s.opn<=s.cls/\s.cls<=4096/\0<=s.serv/\s.serv<=4096))
def MZ (t:Ord):Bool:=decide (t.pick.place≠ -1)&&decide (t.drp.place≠ -1)
def argOk (t:Ord) (ty:Int):Bool:=rng t.penalty (-1) 1000000&&rng t.split 1 4&&decide (¬(1<t.split/\MZ t=true)/\ -1<=t.last/\t.last<ty/\ -1<=t.now/\t.now<ty)
structure OrdOk (np:Nat) (d ty:Int) (l:List Ord) (i:Nat):Prop where
 name:nameOk (nth l i).name=true
 twin: ∀j,j<i->(nth l j).name≠(nth l i).name
 load:loadOk (nth l i).load d=true
 pick: -1<=(nth l i).pick.place/\(nth l i).pick.place<np
 drp: -1<=(nth l i).drp.place/\(nth l i).drp.place<np
 one: ¬((nth l i).pick.place= -1/\(nth l i).drp.place= -1)
 pstp:stpOk (nth l i).pick=true
 dstp:stpOk (nth l i).drp=true
 skills:0<=(nth l i).skills/\(nth l i).skills<=1073741823
 arg:argOk (nth l i) ty=true
def ordersOk (np:Nat) (d ty:Int) (l:List Ord):Prop:=l.length<=10/\ ∀i,i<l.length->OrdOk np d ty l i
def cA (n:Int) (p:Int×Int):Bool:=decide (0<=p.1/\p.1<n)&&decide (0<=p.2/\p.2<n)&&decide (¬p.1=p.2)
def nL (word:List UInt8) (i:Nat):List UInt8:=word++ [32]++QS i
def nU (n:Int) (word:List UInt8) (sm:Int×Int->Int×Int->Bool) (l:List (Int×Int)) (i:Nat):List (Int×List UInt8) :=
 if cA n (nth l i)=false then [(2,nL word i)] else if (l.take i).any (sm (nth l i)) then [(6,nL word i)] else []
def jZ (word:List UInt8) (l:List (Int×Int)):List (Int×List UInt8):=if 16<l.length then [(4,word)] else []
def Nl (n:Int) (word:List UInt8) (sm:Int×Int->Int×Int->Bool) (l:List (Int×Int)) (k:Nat):List (Int×List UInt8):=jZ word l++(List.range k).flatMap (nU n word sm l)
def chk (n:Int) (ap be:List (Int×Int)):List (Int×List UInt8) :=
 Nl n [97,112,97,114,116] (fun p q=>decide (p=q\/(p.1=q.2/\p.2=q.1))) ap ap.length++Nl n [98,101,102,111,114,101] (fun p q=>decide (p=q)) be be.length
@[go_sem] theorem Rb {H:List AM.Obj} {β:Type} {S b o n:Nat} {xs:List PV} {g:β->PV} {m:List β} (hb:(n+m.length)*b<=140737488355328) (hb2:n+m.length<=140737488355328) :
  Y7 H (some (S,b)) (.elems S xs) o n (some (m.map g))=if xs.length=n/\Q3 S (m.map g)=true then some (.sl o 0 (n+m.length) (n+m.length),QV H o (.elems S (xs++m.map g))) else none:=by
 simp_all [E4]
structure InstOk (x:Inst):Prop where
 net:netOk x.net
 types:typesOk x.net x.types
 orders:ordersOk x.net.places.length (dimsOf x.types) x.types.length x.orders
 rules:chk x.orders.length x.apart x.before= []
theorem Cz (a:Int):IntKind.i64.wrap ((BitVec.ofInt 64 a&&&BitVec.ofInt 64 1).toNat:Int)=a%2:=by
 grind [BitVec.toNat_ofInt,IntWalk.i64_in]
def UP (s i:Int):Bool:=decide (0<=i)&&decide (i<=62)&&decide (s.fdiv (2^i.toNat)%2=1)
theorem TY (s i:Int):PC 226 [.p (.int .i64 s),.p (.int .i64 i)] (.bool (UP s i)):=by
 refine Zc Tryz.func226 rfl Ow ?_;simp (disch:=omega) only [Tryz.f226,go_sem,seval];refine gT ?_ ?_<;>intro h<;>simp (disch:=omega) only [Sh.out h,go_sem,seval,↓reduceIte]
 ·refine gT ?_ ?_<;>intro h1<;>simp (disch:=omega) only [Sh.out h1,go_sem,seval,↓reduceIte]
  ·have:min i.toNat 64=i.toNat:=Za
   rw [this]
   erw [Cz]
   simp [UP,h,h1]
  grind [UP]
 ·simp [UP,h]
def Z9 (s:Int) (k:Nat):List Int:=((List.range k).filter fun (i:Nat)=>UP s (i:Int)).map fun (i:Nat)=>(i:Int)
theorem Ed (s:Int):Z9 s 0= []:=by simp [Z9]
theorem Gn {s:Int} {k:Nat} (h:UP s (k:Int)=true):Z9 s (k+1)=Z9 s k++ [(k:Int)]:=by grind [Z9,List.range_succ]
theorem IM {s:Int} {k:Nat} (h:UP s (k:Int)=false):Z9 s (k+1)=Z9 s k:=by grind [Z9,List.range_succ]
theorem Aq (s:Int) (k:Nat):(Z9 s k).length<=k:=by
 grind [Z9]
theorem Ee (s:Int):ACalls Tryz.prog 196 [.p (.int .i64 s)] [] fun x H'=>x= .sl 0 0 (Z9 s 63).length (Z9 s 63).length/\H'= [.elems 1 ((Z9 s 63).map eI)]:=by
 refine JY (fn:=Tryz.f196) Zb Tryz.func196 rfl Ob ?_;simp (disch:=omega) only [Tryz.f196,go_sem,seval];refine Zm [0] (fun k:Nat=> [(3,.sl 0 0 (Z9 s k).length (Z9 s k).length),(5,.p (.int .i64 k))]) (fun k=> [.elems 1 ((Z9 s k).map eI)]) (fun k=>k<=63) (fun k=>63-k) 0 Zb (Weak.ofNil 3 1 (by simp (disch:=omega) only [go_sem,seval]) Zb (Weak.mk ?_)) ?_
 ·simp (disch:=omega) only [Ed,go_sem,seval,↓reduceIte]
 ·intro k hk;have hl:=Aq s k;refine Zi ?_;refine cD ?_ ?_<;>intro h<;>simp (disch:=omega) only [Sh.out h,go_sem,seval,↓reduceIte]
  ·refine (TY s k).use (Zi ?_);refine cD ?_ ?_<;>intro h2<;>simp (disch:=omega) only [Sh.out h2,go_sem,seval,↓reduceIte]
   ·refine ⟨k+1,Za,Za,Weak.mk ?_⟩;simp (disch:=omega) only [Gn h2,go_sem,seval]
   ·exact ⟨k+1,Za,Za,Weak.mk (by simp (disch:=omega) only [IM h2,go_sem,seval])⟩
  ·have:k=63:=Za
   subst this;exact ⟨0,by simp (disch:=omega) only [go_sem,seval]⟩
def hv (s k:Nat):Nat:=s / pw k
theorem Nt (s k:Nat):s.testBit k=decide (hv s k%2=1):=by
 rw [Nat.testBit_eq_decide_div_mod_eq]
 rfl
theorem AQ (s i:Nat) (hi:i<=62):UP (s:Int) (i:Int)=s.testBit i:=by
 rw [Nt,hv]
 have h1:(0:Int)<=i:=Za
 have h2:(i:Int)<=62:=Za
 simp only [UP,h1,h2,decide_true,Bool.true_and,Int.toNat_natCast]
 have e:((s:Int)).fdiv (2^i)=((s / pw i:Nat):Int):=by
  grind [pw]
 grind
theorem CA {α:Type} [Inhabited α] {l:List α} {f:α->Bool} {k:Nat} (h:k<l.length) (hf:f (nth l k)=true):l.any f=true:=by
 grind [Zg]
theorem E1 {α:Type} [Inhabited α] {l:List α} {f:α->Bool} (h: ∀j,j<l.length->f (nth l j)=false):l.any f=false:=by
 rw [List.any_eq_false];intro x hx;obtain ⟨j,hj,rfl⟩:=List.mem_iff_getElem.1 hx
 grind [Zg]
deriving instance DecidableEq for Vis
theorem Cn {v w:Vis} :v=w↔v.order=w.order/\v.drp=w.drp:=by cases v;cases w;simp
def BE (f:Vis->Bool) (l:List Vis):Int:=match l.findIdx? f with | some i=>(i:Int) | none=> -1
def vIx (l:List Vis) (v:Vis):Int:=BE (fun w=>decide (v=w)) l
theorem BF {f:Vis->Bool} {l:List Vis} {k:Nat} (hk:k<l.length) (h:f (nth l k)=true) (hno: ∀j,j<k->f (nth l j)=false):BE f l=(k:Int):=by
 have:l.findIdx? f=some k:=by
  grind [List.findIdx?_eq_some_iff_getElem,Zg]
 simp [BE,this]
theorem FI {f:Vis->Bool} {l:List Vis} (hno: ∀j,j<l.length->f (nth l j)=false):BE f l= -1:=by
 have:l.findIdx? f=none:=by
  rw [List.findIdx?_eq_none_iff];intro x hx;obtain ⟨j,hj,rfl⟩:=List.mem_iff_getElem.1 hx
  grind [Zg]
 simp [BE,this]
theorem FH {f:Vis->Bool} {l:List Vis} :decide (0<=BE f l)=l.any f:=by
 grind [BE]
theorem Nk {f:Vis->Bool} {l:List Vis} :BE f l<l.length/\ -1<=BE f l:=by
 grind [BE,List.findIdx?_eq_some_iff_getElem]
theorem Yw {P:Program} {id:Nat} {l:List Oper} {fr:List V} {H:List AM.Obj} {Q:Exit->List V->List AM.Obj->Prop} {t} (h:hs P (l.map (·.dst)) H (Zp (fun fr'=>Q .normal (F6 fr') H) ⟨⟩) l (F6 fr)) (hm:P.follows .mixedOrders=true:=by exact mixed) (hB:Wm (List.toArray l) l.length=true:=by kernel_rfl) (hR:Uo (List.toArray l) l.length=true:=by kernel_rfl):AWP P (.region id (Zp (List.toArray l) t) true) fr H Q:=Bp hm hB hR h
theorem CY (l:List Vis) (c:Bool) (v:Vis) (hl:l.length<=1048576):PC 234 [.p (.list c (l.map ZR)),.p (ZR v)] (.int .i64 (vIx l v)):=by
 refine Zc Tryz.func234 rfl Ox ?_;simp (disch:=omega) only [Tryz.f234,go_sem,seval];refine Zm [0,3,7] (fun k:Nat=> [(8,.p (.int .i64 k))]) (fun _=> [.cells [.p (.int .i64 v.order),.p (.bool v.drp)]]) (fun k=>k<=l.length/\ ∀j,j<k->decide (v=nth l j)=false) (fun k=>l.length-k) 0 Zb (Weak.mk ?_) ?_
 ·simp (disch:=omega) only [go_sem,seval,↓reduceIte]
 ·rintro k ⟨hk,hno⟩;refine Zi ?_;refine cD ?_ ?_<;>intro h<;>simp (disch:=omega) only [Sh.out h,go_sem,seval,↓reduceIte]
  ·have hk2:k<l.length:=Za
   refine Yw (Zi ?_);refine cD ?_ ?_<;>intro h2<;>simp (disch:=omega) only [Sh.out h2,go_sem,seval,↓reduceIte]
   ·grind [Cn,vIx,BF]
   ·have: ¬v=nth l k:=by grind
    exact ⟨k+1,⟨Za,Zn.2 ⟨hno,by grind⟩⟩,Za,wk⟩
  grind [vIx,FI]
theorem Di (l:List Vis) (c:Bool) (v:Vis) (hl:l.length<=1048576):PC 216 [.p (.list c (l.map ZR)),.p (ZR v)] (.int .i64 (vIx l v)):=by
 refine Zc Tryz.func216 rfl Oi ?_;simp (disch:=omega) only [Tryz.f216,go_sem,seval];refine (CY l c v hl).use ?_;simp (disch:=omega) only [go_sem,seval]
theorem Kd (l:List Vis) (c:Bool) (v:Vis) (hl:l.length<=1048576):PC 218 [.p (.list c (l.map ZR)),.p (ZR v)] (.bool (decide (0<=vIx l v))):=by
 refine Zc Tryz.func218 rfl Ol ?_;simp (disch:=omega) only [Tryz.f218,go_sem,seval];refine (CY l c v hl).use ?_;simp (disch:=omega) only [go_sem,seval]
theorem Lu (l:List Ord) (c:Bool) (n:Int) (hl:l.length<=1048576):PC 117 [.p (.list c (l.map Wr)),.p (.int .i64 n)] (.bool (decide (0<=n/\n<l.length))):=by
 refine Zc Tryz.func117 rfl F8 ?_;simp (disch:=omega) only [Tryz.f117,go_sem,seval];refine gT ?_ ?_<;>intro h<;>simp (disch:=omega) only [Sh.out h,go_sem,seval,↓reduceIte]
 all_goals (try simp [h])
def X6 (l:List Ord) (i:Nat):List Vis:=(if 0<=(nth l i).pick.place then [⟨i,false⟩] else [])++(if 0<=(nth l i).drp.place then [⟨i,true⟩] else [])
theorem Hk (l:List Ord) (i:Nat):(X6 l i).length<=2:=by grind [X6]
theorem Co (l:List Ord) (c:Bool) (i:Nat) (hi:i<l.length) (hl:l.length<=1048576):ACalls Tryz.prog 217 [.p (.list c (l.map Wr)),.p (.int .i64 (i:Nat))] [] fun x H'=>x= .sl 0 0 (X6 l i).length (X6 l i).length/\H'= [.elems 2 ((X6 l i).map ZR)]:=by
 suffices hh:ACalls Tryz.prog 217 [.p (.list c (l.map Wr)),.p (.int .i64 (i:Nat))] [] fun x H'=> ∃m:List Vis,m=X6 l i/\x= .sl 0 0 m.length m.length/\H'= [.elems 2 (m.map ZR)] by
  grind
 refine QY [2] Tryz.func217 rfl Oj ?_;simp (disch:=omega) only [Tryz.f217,go_sem,seval];refine Zs (Weak.ofNil 5 2 (by simp (disch:=omega) only [go_sem,seval]) Zb (Weak.refl _ _ _)) ?_;refine Ze [4] _ _ _ _ (Zi ?_);refine (Lu l c i hl).use (Zi ?_)
 have h0:(0:Int)<=(i:Int)/\(i:Int)<(l.length:Int):=Za
 simp (disch:=omega) only [h0,go_sem,seval];refine X0 [0,1] (fun m:List Vis=> [(5,.sl 0 0 m.length m.length)]) (fun m=> [.elems 2 (m.map ZR)]) (fun m=>m=(if 0<=(nth l i).pick.place then [⟨i,false⟩] else [])) ?_ ?_
 ·refine Zi ?_;refine cD ?_ ?_<;>intro h<;>simp (disch:=omega) only [Sh.out h,go_sem,seval,↓reduceIte]
  ·exact ⟨[⟨i,false⟩],by simp [],wk⟩
  ·exact ⟨[],by simp [],wk⟩
 ·intro m hm
  have hml:m.length<=1:=by grind
  refine Ze [] _ _ _ _ (Zi ?_);refine cD ?_ ?_<;>intro h<;>simp (disch:=omega) only [Sh.out h,go_sem,seval,↓reduceIte]
  ·exact ⟨m++ [⟨i,true⟩],by simp_all [X6],0,by simp (disch:=omega) only [go_sem,seval]⟩
  ·exact ⟨m,by simp_all [X6],0,by simp (disch:=omega) only [go_sem,seval]⟩
theorem visits_c (l:List Ord) (c:Bool) (i:Nat) (hi:i<l.length) (hl:l.length<=1048576):PC 217 [.p (.list c (l.map Wr)),.p (.int .i64 (i:Nat))] (.list false ((X6 l i).map ZR)) :=
 (Co l c i hi hl).frozen Zb
def Uv (l:List Vis):Bool:=(List.range l.length).any fun i=>decide (0<=vIx (l.take i) (nth l i))
theorem Lw (l:List Vis) (c:Bool) (hl:l.length<=1048576):PC 183 [.p (.list c (l.map ZR))] (.bool (Uv l)):=by
 refine Zc Tryz.func183 rfl NZ ?_;simp (disch:=omega) only [Tryz.f183,go_sem,seval];refine Zm [0,5,6] (fun k:Nat=> [(7,.p (.int .i64 k))]) (fun _=> []) (fun k=>k<=l.length/\ ∀j,j<k->decide (0<=vIx (l.take j) (nth l j))=false) (fun k=>l.length-k) 0 Zb (Weak.mk ?_) ?_
 ·simp (disch:=omega) only [go_sem,seval,↓reduceIte]
 ·rintro k ⟨hk,hno⟩;refine Zi ?_;refine cD ?_ ?_<;>intro h<;>simp (disch:=omega) only [Sh.out h,go_sem,seval,↓reduceIte]
  ·have hk2:k<l.length:=Za
   refine Yw (Zi ?_);refine ZQ (Di (l.take k) _ (nth l k) (by simp;omega)) (Zi ?_);refine cD ?_ ?_<;>intro h2<;>simp (disch:=omega) only [Sh.out h2,go_sem,seval,↓reduceIte]
   ·grind [Uv]
   ·exact ⟨k+1,⟨Za,Zn.2 ⟨hno,by grind⟩⟩,Za,wk⟩
  grind [Uv]
theorem UF (l:List Vis) (c:Bool) (g:FuncId) (caps:List V) (H:List AM.Obj) (f:Vis->Bool) (hl:l.length<=1048576) (hW:A9 H H.length H H) (hc:Zx H.length caps=true)
  (hg: ∀v∈l,ACalls Tryz.prog g (.p (ZR v)::caps) H fun x H'=>x= .p (.bool (f v))/\H'=H) :
  ACalls Tryz.prog 215 [.p (.list c (l.map ZR)),.fn (.func g) [] caps] H fun x H'=>x= .p (.int .i64 (BE f l))/\H'=H:=by
 refine Xl Tryz.func215 rfl Oh (Ze [] _ _ _ _ ?_);simp (disch:=omega) only [Tryz.f215,go_sem,seval];refine Zm [0,1,7] (fun k:Nat=> [(8,.p (.int .i64 k))]) (fun _=>H) (fun k=>k<=l.length/\ ∀j,j<k->f (nth l j)=false) (fun k=>l.length-k) 0 Zb (Weak.mk ?_) ?_
 ·simp (disch:=omega) only [hW,hc,go_sem,seval];simp
 ·rintro k ⟨hk,hno⟩;refine Zi ?_;refine cD ?_ ?_<;>intro h<;>simp (disch:=omega) only [Sh.out h,go_sem,seval,↓reduceIte]
  ·have hk2:k<l.length:=Za
   refine (hg (nth l k) (Xb hk2)).useH (Zi ?_);refine cD ?_ ?_<;>intro h2<;>simp (disch:=omega) only [Sh.out h2,go_sem,seval,↓reduceIte]
   ·grind [BF]
   ·have h3:f (nth l k)=false:=Za
    refine ⟨k+1,⟨Za,Zn.2 ⟨hno,h3⟩⟩,Za,Weak.mk ?_⟩;simp (disch:=omega) only [hW,hc,go_sem,seval];simp
  grind [FI]
theorem Yv (l:List Vis) (c:Bool) (g:FuncId) (caps:List V) (H:List AM.Obj) (f:Vis->Bool) (hl:l.length<=1048576) (hW:A9 H H.length H H) (hc:Zx H.length caps=true)
  (hg: ∀v∈l,ACalls Tryz.prog g (.p (ZR v)::caps) H fun x H'=>x= .p (.bool (f v))/\H'=H) :
  ACalls Tryz.prog 180 [.p (.list c (l.map ZR)),.fn (.func g) [] caps] H fun x H'=>x= .p (.bool (l.any f))/\H'=H:=by
 refine Xl Tryz.func180 rfl NW (Ze [] _ _ _ _ ?_);simp (disch:=omega) only [Tryz.f180,go_sem,seval];refine (UF l c g caps H f hl hW hc hg).useH (Zi ?_);rw [FH]
def Xt (l:List Vis) (o:Int):Bool:=l.any fun v=>decide (v.order=o)
theorem Nq (v:Vis) (o:Int):ACalls Tryz.prog 219 [.p (ZR v),.ptr 0 0] [.cells [.p (.int .i64 o)]] fun x H'=>x= .p (.bool (decide (v.order=o)))/\H'= [.cells [.p (.int .i64 o)]]:=by
 refine Zd [] Tryz.func219 rfl Om ?_;simp (disch:=omega) only [Tryz.f219,go_sem,seval];exact we
theorem DR (v:Vis) (o:Int):ACalls Tryz.prog 220 [.p (ZR v),.ptr 0 0] [.cells [.p (.int .i64 o)]] fun x H'=>x= .p (.bool (decide (v.order=o)))/\H'= [.cells [.p (.int .i64 o)]]:=by
 refine Zd [] Tryz.func220 rfl On ?_;simp (disch:=omega) only [Tryz.f220,go_sem,seval];exact we
theorem VZ (l:List Vis) (c:Bool) (o:Int) (hl:l.length<=1048576):PC 185 [.p (.list c (l.map ZR)),.p (.int .i64 o)] (.bool (Xt l o)):=by
 refine Zc Tryz.func185 rfl N1 ?_;simp (disch:=omega) only [Tryz.f185,go_sem,seval];refine (Yv l c 219 [.ptr 0 0] [.cells [.p (.int .i64 o)]] (fun v=>decide (v.order=o)) hl (by simp (disch:=omega) only [go_sem,seval]) (by rfl) (fun v _=>Nq v o)).useH (Zi ?_);rw [Xt]
def Yg (l:List Vis) (a b:Int):Bool:=if BE (fun v=>decide (v.order=b)) l<0 then true else Xt l a&& !Xt (l.drop (BE (fun v=>decide (v.order=b)) l).toNat) a
theorem AT (l:List Vis) (c:Bool) (a b:Int) (hl:l.length<=1048576):PC 186 [.p (.list c (l.map ZR)),.p (.int .i64 a),.p (.int .i64 b)] (.bool (Yg l a b)):=by
 refine Zc Tryz.func186 rfl N2 ?_;simp (disch:=omega) only [Tryz.f186,go_sem,seval];refine (UF l c 220 [.ptr 0 0] [.cells [.p (.int .i64 b)]] (fun v=>decide (v.order=b)) hl (by simp (disch:=omega) only [go_sem,seval]) (by rfl) (fun v _=>DR v b)).useH ?_;have hlt:=Nk (f:=fun v=>decide (v.order=b)) (l:=l);refine Zi ?_;refine cD ?_ ?_<;>intro h<;>simp (disch:=omega) only [Sh.out h,go_sem,seval]
 ·rw [Yg,if_pos h]
 ·refine (VZ l c a hl).use (Zi ?_);generalize hq:BE (fun v=>decide (v.order=b)) l=q at hlt h ⊢
  cases h2:Xt l a with
  | false =>
   refine Zi ?_
   simp_all [Yg]
  | true =>
   simp (disch:=omega) only [List.take_length,go_sem,seval];refine (VZ (l.drop q.toNat) _ a (by simp;omega)).use (Zi ?_)
   simp_all [Yg,if_neg]
def V8 (l:List Vis):Int->List Vis->Bool
 | _,[]=>true
 | last,w::r=>decide (last<vIx l w)&&V8 l (vIx l w) r
def pairB (os:List Ord) (l:List Vis) (v:Vis):Bool:=decide (0<=vIx (X6 os v.order.toNat) v)&&V8 l (-1) (X6 os v.order.toNat)
theorem AU (x:Inst) (l:List Vis) (c:Bool) (hl:l.length<=1048576) (ho:x.orders.length<=1048576) (hv: ∀v∈l,0<=v.order/\v.order<x.orders.length) :
  PC 184 [.p (XQ x),.p (.list c (l.map ZR))] (.bool (l.all (pairB x.orders l))):=by
 refine Zc Tryz.func184 rfl N0 ?_;simp (disch:=omega) only [Tryz.f184,go_sem,seval];refine Zm [1,2,12,13] (fun k:Nat=> [(14,.p (.int .i64 k))]) (fun _=> [Zj x]) (fun k=>k<=l.length/\ ∀j,j<k->pairB x.orders l (nth l j)=true) (fun k=>l.length-k) 0 Zb (Weak.mk ?_) ?_
 ·simp (disch:=omega) only [Zj,go_sem,seval]
 ·rintro k ⟨hk,hno⟩;simp (disch:=omega) only [Zj,go_sem,seval];refine cD ?_ ?_<;>intro h<;>simp (disch:=omega) only [Sh.out h,go_sem,seval,↓reduceIte]
  ·have hk2:k<l.length:=Za
   obtain ⟨v1,v2⟩:=hv _ (Xb hk2)
   have hbad:pairB x.orders l (nth l k)=false->l.all (pairB x.orders l)=false:=fun h4=>by
    grind [Xb]
   obtain ⟨i,hi⟩: ∃i:Nat,(nth l k).order=(i:Int):=⟨(nth l k).order.toNat,Za⟩
   have hp:pairB x.orders l (nth l k)=(decide (0<=vIx (X6 x.orders i) (nth l k))&&V8 l (-1) (X6 x.orders i)):=by rw [pairB,hi];rfl
   rw [hi] at v1 v2;simp (disch:=omega) only [hi,go_sem,seval];refine (visits_c x.orders x.orders_c i Za ho).use (Zi ?_);have hvl:=Hk x.orders i;have hcon:=Kd (X6 x.orders i) false (nth l k) Za;rw [Iq,hi] at hcon;refine (hcon).use (Zi ?_);refine cD ?_ ?_<;>intro h2<;>simp (disch:=omega) only [Sh.out h2,go_sem,seval]
   ·grind
   ·have h2':0<=vIx (X6 x.orders i) (nth l k):=Za
    generalize hown:X6 x.orders i=own at hvl hp h2' ⊢
    have hp2:pairB x.orders l (nth l k)=V8 l (-1) own:=by grind
    refine Zm [1,2,12,13,14,27,28] (fun q:Nat×Int=> [(8,.p (.int .i64 q.2)),(29,.p (.int .i64 q.1))]) (fun _=> [Zj x,.cells [.p (.int .i64 (i:Int)),.p (.bool (nth l k).drp)]]) (fun q=>q.1<=own.length/\V8 l (-1) own=V8 l q.2 (own.drop q.1)) (fun q=>own.length-q.1) (0,-1) Zb (Weak.mk ?_) ?_
    ·simp (disch:=omega) only [Zj,go_sem,seval]
    ·rintro ⟨j,last⟩ ⟨hj,ha⟩;simp only at hj ha;simp (disch:=omega) only [Zj,go_sem,seval];refine XL ?_ ?_<;>intro h3
     ·have hj2:j<own.length:=Za
      have hd:own.drop j=nth own j::own.drop (j+1):=by rw [List.drop_eq_getElem_cons hj2,Zg hj2]
      rw [hd] at ha;refine (Di l c (nth own j) hl).use (Zi ?_);refine XL ?_ ?_<;>intro h4
      ·grind [V8]
      ·have h5:last<vIx l (nth own j):=Za
       exact ⟨(j+1,vIx l (nth own j)),⟨Za,by grind [V8]⟩,Za,wk⟩
     ·have hjl:j=own.length:=Za
      subst hjl;exact ⟨k+1,⟨Za,Zn.2 ⟨hno,by grind [V8]⟩⟩,Za,wk⟩
  ·have hkl:k=l.length:=Za
   subst hkl
   have:l.all (pairB x.orders l)=true:=by
    rw [List.all_eq_true];intro v hv;obtain ⟨j,hj,rfl⟩:=List.mem_iff_getElem.1 hv
    grind [Zg]
   rw [this]
def ZE (r:Rte):AM.Obj:= .cells [.p (.int .i64 r.typ),.p (.int .i64 r.start),.p (.list r.rests_c (r.rests.map eB)),.p (.list r.visits_c (r.visits.map ZR))]
def QC (x:Inst) (v:Vis):Bool:= !decide (0<=v.order/\v.order<(x.orders.length:Int))
theorem Fm (x:Inst) (r:Rte) (v:Vis) (ho:x.orders.length<=1048576):ACalls Tryz.prog 181 [.p (ZR v),.ptr 0 0] [Zj x,ZE r] fun y H'=>y= .p (.bool (QC x v))/\H'= [Zj x,ZE r]:=by
 refine Zd [] Tryz.func181 rfl NX ?_;simp (disch:=omega) only [Tryz.f181,Zj,ZE,go_sem,seval];refine gF ?_ ?_<;>intro h<;>simp (disch:=omega) only [Sh.out h,go_sem,seval,↓reduceIte]
 ·have e:QC x v=true:=by
   grind [QC]
  rw [e];exact we
 ·have e:QC x v=decide ((x.orders.length:Int)<=v.order):=by
   have h0:0<=v.order:=Za
   rw [Bool.eq_iff_iff];simp [QC,h0]
  rw [e];exact we
theorem Fo (x:Inst) (r:Rte) (v:Vis) (ho:x.orders.length<=1048576) (h1:0<=v.order) (h2:v.order<x.orders.length):ACalls Tryz.prog 182 [.p (ZR v),.ptr 0 0] [Zj x,ZE r] fun y H'=>y= .p (.bool (nth x.orders v.order.toNat).off)/\H'= [Zj x,ZE r]:=by
 have h3:v.order.toNat<x.orders.length:=Za
 refine Zd [] Tryz.func182 rfl NY ?_;simp (disch:=omega) only [Tryz.f182,Zj,ZE,go_sem,seval];exact we
def ZZ (x:Inst) (l:List Vis):Int :=
 if l.length=0\/l.any (QC x)=true then 2
 else if (l.any fun v=>(nth x.orders v.order.toNat).off)=true then 9
 else if Uv l=true then 6
 else if l.all (pairB x.orders l)=false then 19
 else if (x.apart.any fun p=>Xt l p.1&&Xt l p.2)=true then 20
 else if (x.before.any fun p=> !Yg l p.1 p.2)=true then 21
 else 0
theorem JQ {P Q:Prop} (h:Q) (e:Q->P:=by intro h;simp (disch:=omega) only [Zj,ZE,go_sem,seval];exact h):P:=e h
theorem Ce (x:Inst) (r:Rte) (ho:x.orders.length<=1048576) (hl:r.visits.length<=1048576) (hap:x.apart.length<=1048576) (hbe:x.before.length<=1048576) :
  PC 153 [.p (XQ x),.p (X1 r)] (.int .i64 (ZZ x r.visits)):=by
 refine Zc Tryz.func153 rfl NJ ?_;simp (disch:=omega) only [Tryz.f153,go_sem,seval];refine gF ?_ ?_<;>intro h0<;>simp (disch:=omega) only [Sh.out h0,go_sem,seval]
 ·grind [ZZ]
 ·have h00: ¬r.visits.length=0:=Za
  refine (Yv r.visits r.visits_c 181 [.ptr 0 0] [Zj x,ZE r] (QC x) hl (by simp (disch:=omega) only [Zj,ZE,go_sem,seval]) (by rfl) (fun v _=>Fm x r v ho)).useH (JQ ?_);refine cD ?_ ?_<;>intro h1<;>simp (disch:=omega) only [Sh.out h1,go_sem,seval]
  ·simp_all [ZZ]
  ·have h1':r.visits.any (QC x)=false:=Za
   have c1: ¬(r.visits.length=0\/r.visits.any (QC x)=true):=by grind
   have hin: ∀v∈r.visits,0<=v.order/\v.order<x.orders.length:=fun v hv=>by
    grind [QC]
   refine (Yv r.visits r.visits_c 182 [.ptr 0 0] [Zj x,ZE r] (fun v=>(nth x.orders v.order.toNat).off) hl (by simp (disch:=omega) only [Zj,ZE,go_sem,seval]) (by rfl) (fun v hv=>Fo x r v ho (hin v hv).1 (hin v hv).2)).useH (JQ ?_);refine cD ?_ ?_<;>intro h2<;>simp (disch:=omega) only [Sh.out h2,go_sem,seval]
   ·simp_all [ZZ]
   ·refine (Lw r.visits r.visits_c hl).use (Zi ?_);refine cD ?_ ?_<;>intro h3<;>simp (disch:=omega) only [Sh.out h3,go_sem,seval,↓reduceIte]
    ·simp_all [ZZ,if_neg]
    ·refine (AU x r.visits r.visits_c hl ho hin).use (Zi ?_);refine cD ?_ ?_<;>intro h4<;>simp (disch:=omega) only [Sh.out h4,go_sem,seval,↓reduceIte]
     ·simp_all [ZZ,if_neg]
     ·have h4':r.visits.all (pairB x.orders r.visits)=true:=by grind
      have hc:ZZ x r.visits=if (x.apart.any fun p=>Xt r.visits p.1&&Xt r.visits p.2)=true then 20 else if (x.before.any fun p=> !Yg r.visits p.1 p.2)=true then 21 else 0:=by
       rw [ZZ,if_neg c1,if_neg (by grind),if_neg (by grind),if_neg (by grind)]
      clear h4 h4' h3 h2 c1 h1' h1 h0;refine Zm [2,5,33,34] (fun k:Nat=> [(35,.p (.int .i64 k))]) (fun _=> [Zj x,ZE r]) (fun k=>k<=x.apart.length/\ ∀j,j<k->(Xt r.visits (nth x.apart j).1&&Xt r.visits (nth x.apart j).2)=false) (fun k=>x.apart.length-k) 0 Zb (Weak.mk ?_) ?_
      ·simp (disch:=omega) only [Zj,ZE,go_sem,seval]
      ·rintro k ⟨hk,hno⟩;refine JQ ?_;refine cD ?_ ?_<;>intro h<;>simp (disch:=omega) only [Sh.out h,go_sem,seval,↓reduceIte]
       ·have hk2:k<x.apart.length:=Za
        refine (VZ r.visits r.visits_c (nth x.apart k).1 hl).use (Zi ?_);refine TK ?_ ?_<;>intro h2
        ·refine (VZ r.visits r.visits_c (nth x.apart k).2 hl).use (Zi ?_);refine XL ?_ ?_<;>intro h3
         ·rw [hc,if_pos (CA hk2 (by grind))]
         ·exact ⟨k+1,⟨Za,Zn.2 ⟨hno,by grind⟩⟩,Za,wk⟩
        ·exact ⟨k+1,⟨Za,Zn.2 ⟨hno,by simp [h2]⟩⟩,Za,wk⟩
       ·have hkl:k=x.apart.length:=Za
        subst hkl;rw [hc,E1 hno];clear hno hk h hc;rw [if_neg Zb];refine Zm [5,51,52] (fun k:Nat=> [(53,.p (.int .i64 k))]) (fun _=> [Zj x,ZE r]) (fun k=>k<=x.before.length/\ ∀j,j<k->(!Yg r.visits (nth x.before j).1 (nth x.before j).2)=false) (fun k=>x.before.length-k) 0 Zb (Weak.mk ?_) ?_
        ·simp (disch:=omega) only [Zj,ZE,go_sem,seval]
        ·rintro k ⟨hk,hno⟩;refine JQ ?_;refine cD ?_ ?_<;>intro h<;>simp (disch:=omega) only [Sh.out h,go_sem,seval,↓reduceIte]
         ·have hk2:k<x.before.length:=Za
          refine (AT r.visits r.visits_c (nth x.before k).1 (nth x.before k).2 hl).use (Zi ?_);refine XL ?_ ?_<;>intro h2
          ·have h3:(!Yg r.visits (nth x.before k).1 (nth x.before k).2)=true:=Za
           rw [if_pos (CA hk2 h3)]
          ·have h3:(!Yg r.visits (nth x.before k).1 (nth x.before k).2)=false:=Za
           exact ⟨k+1,⟨Za,Zn.2 ⟨hno,h3⟩⟩,Za,wk⟩
         grind [E1]
@[go_sem] theorem eE {H:List AM.Obj} {n cs cs'} :QR H n (.tup cs) (.tup cs')=(cs'=cs/\Zx n cs=true):=by simp [QR,Hx,refB]
@[go_sem] theorem B5 {a b:V} :WQ [a,b]= .tup [a,b]:=Eq.trans rfl rfl
theorem Yj {g:FuncId} {args:List V} {a b:PV} {H:List AM.Obj} {K:V->List AM.Obj->Prop} (h:ACalls Tryz.prog g args [] fun x H'=>x= .tup [.p a,.p b]/\H'= []) (k:K (.tup [.p a,.p b]) H) (ha:Zx 0 args=true:=by rfl):ACalls Tryz.prog g args H K :=
 (h.behind ha H).mono fun x H' hq=>by
  obtain ⟨y,H1,⟨rfl,rfl⟩,rfl,rfl⟩:=hq
  grind [Bf,Wv]
def Yi (l:List Vis):Nat:=l.foldl (fun s v=>s|||pw v.order.toNat) 0
def Hy (v:Vis):Bool:=decide (0<=v.order/\v.order<=62)
theorem JH {l:List Vis} {k:Nat} (hk:k<l.length):Yi (l.take (k+1))=Yi (l.take k)|||pw (nth l k).order.toNat:=by
 grind [List.take_succ_eq_append_getElem,Yi,Zg]
theorem Df : ∀(k:Nat) {l:List Vis},k<=l.length->(∀v∈l.take k,Hy v=true)->Yi (l.take k)<9223372036854775808
 | 0,l,_,_=>by simp [Yi]
 | k+1,l,hk,h=>by
  have hk2:k<l.length:=Za
  have ih:=Df k (l:=l) Za fun v hv=>h v (List.take_subset_take_left l Za hv);have hv:=h (nth l k) (by rw [Zg hk2];exact List.mem_iff_getElem.2 ⟨k,by simp;omega,Zb⟩);simp only [Hy,decide_eq_true_eq] at hv;have h2:pw (nth l k).order.toNat<=pw 62:=GV Za;have h3:=GU;rw [JH hk2];exact Nat.or_lt_two_pow (n:=63) Za Za
def Ko (l:List Vis):Int×Int:=if l.all Hy=true then (((Yi l:Nat):Int),0) else (0,2)
theorem WT (r:Rte) (hl:r.visits.length<=1048576):PT 121 [.p (X1 r)] [.p (.int .i64 (Ko r.visits).1),.p (.int .i64 (Ko r.visits).2)]:=by
 refine Zd [] Tryz.func121 rfl NB ?_;simp (disch:=omega) only [Tryz.f121,go_sem,seval];refine Zm [8,9] (fun k:Nat=> [(4,.p (.int .i64 (Yi (r.visits.take k):Nat))),(10,.p (.int .i64 k))]) (fun _=> [ZE r]) (fun k=>k<=r.visits.length/\ ∀j,j<k->Hy (nth r.visits j)=true) (fun k=>r.visits.length-k) 0 Zb (Weak.mk ?_) ?_
 ·simp (disch:=omega) only [ZE,Yi,List.take_zero,List.foldl_nil,go_sem,seval]
 ·rintro k ⟨hk,hno⟩
  have hlt:=Df k hk fun v hv=>by
   obtain ⟨j,hj,rfl⟩:=List.mem_iff_getElem.1 hv
   grind [Zg]
  simp (disch:=omega) only [ZE,go_sem,seval];refine cD ?_ ?_<;>intro h<;>simp (disch:=omega) only [Sh.out h,go_sem,seval,↓reduceIte]
  ·have hk2:k<r.visits.length:=Za
   have hbad:Hy (nth r.visits k)=false->Ko r.visits=(0,2):=fun h4=>by
    grind [Xb,Ko]
   have hs:=JH hk2
   have hp:(nth r.visits k).order<=62->pw (nth r.visits k).order.toNat<=4611686018427387904:=fun h=>by rw [<- GU];exact GV Za
   refine gF ?_ ?_<;>intro h1<;>simp (disch:=omega) only [Sh.out h1,go_sem,seval,↓reduceIte]
   ·have e:=hbad (by simp [Hy];omega);rw [e];exact we
   ·refine XL ?_ ?_<;>intro h2
    ·have e:=hbad (by simp [Hy];omega);rw [e];exact we
    ·exact ⟨k+1,⟨Za,Zn.2 ⟨hno,by simp [Hy];omega⟩⟩,Za,Weak.mk (by simp (disch:=omega) only [hs,go_sem,seval])⟩
  ·have hkl:k=r.visits.length:=Za
   subst hkl
   have:r.visits.all Hy=true:=by
    rw [List.all_eq_true];intro v hv;obtain ⟨j,hj,rfl⟩:=List.mem_iff_getElem.1 hv
    grind [Zg]
   have e:Ko r.visits=(((Yi r.visits:Nat):Int),0):=by simp [Ko,this]
   rw [e,List.take_length];exact we
def dn (v:Vis):Int:=if v.drp=true then 1 else 0
def nC (nx:List Vis->List Vis):Nat->List Vis->List (List Vis)->List (List Vis)×Bool
 | 0,l,outs=>(outs++ [l],decide (outs.length+1<=8192))
 | f+1,l,outs=>(nx l).foldl (fun acc v=>if acc.2=true then nC nx f (l++ [v]) acc.1 else acc) (outs,true)
def Plc (x:Inst):Prop:= ∀o∈x.orders,-1<=o.pick.place/\ -1<=o.drp.place
theorem V3 {l:List Vis} {v:Vis} :0<=vIx l v↔v∈l:=by
 grind [FH,vIx]
def Vne (x:Inst):Prop:= ∀i,i<x.orders.length->X6 x.orders i≠ []
def ext (nx:List Vis->List Vis):Nat->List Vis->List (List Vis)->List (List Vis)
 | 0,l,outs=>if 8192<outs.length then outs else outs++ [l]
 | f+1,l,outs=>if 8192<outs.length then outs else (nx l).foldl (fun acc v=>ext nx f (l++ [v]) acc) outs
structure IFacts (x:Inst):Prop where
 len:x.orders.length<=10
 plc:Plc x
 vne:Vne x
 val:Val x.orders.length x.before
 ne: ∀p∈x.before,p.1≠p.2
 aval:Val x.orders.length x.apart
theorem FM {n:Int} {word:List UInt8} {sm:Int×Int->Int×Int->Bool} {l:List (Int×Int)} (h:Nl n word sm l l.length= []): ∀p∈l,cA n p=true:=by
 intro p hp;obtain ⟨i,hi,rfl⟩:=List.mem_iff_getElem.1 hp;have h2:=(List.append_eq_nil_iff.1 h).2;rw [List.flatMap_eq_nil_iff] at h2;have h3:=h2 i (by grind)
 grind [nU,Zg]
theorem D7 {x:Inst} (h:InstOk x):IFacts x:=by
 have ho:=h.orders;obtain ⟨h1,h2⟩:=List.append_eq_nil_iff.1 h.rules;have ha:=FM h1;have hb:=FM h2
 have hpl:Plc x:=fun o hm=>by
  obtain ⟨i,hi,rfl⟩:=List.mem_iff_getElem.1 hm;have:=ho.2 i hi;rw [<- Zg hi];exact ⟨this.pick.1,this.drp.1⟩
 have val: ∀l:List (Int×Int),(∀p∈l,cA x.orders.length p=true)->Val x.orders.length l:=fun l h p hp=>by
  grind [cA]
 refine ⟨ho.1,hpl,fun i hi=> ?_,val _ hb,fun p hp=> ?_,val _ ha⟩
 ·have h3:=ho.2 i hi;have h4:=hpl _ (Xb hi);have h5:=h3.one
  grind [X6]
 grind [cA]
theorem WH {l:List Vis} {o:Int} :Xt l o=true↔ ∃v∈l,v.order=o:=by simp [Xt]
theorem QA : ∀(l:List Vis) (i:Nat),(Yi l).testBit i=true↔ ∃v∈l,v.order.toNat=i:=by
 have key: ∀(l:List Vis) (s i:Nat),(l.foldl (fun s v=>s|||pw v.order.toNat) s).testBit i=true↔s.testBit i=true\/ ∃v∈l,v.order.toNat=i:=by
  intro l
  induction l with
  | nil=>simp
  | cons v l ih =>
   intro s i;rw [List.foldl_cons,ih,Nat.testBit_or,Cl,Bool.or_eq_true,decide_eq_true_eq,or_assoc];simp
 grind [Yi]
def Inr (x:Inst) (l:List Vis):Prop:= ∀v∈l,0<=v.order/\v.order<x.orders.length
theorem Kx {l:List Vis} (hd:l.Nodup) {k:Nat} (hk:k<l.length):vIx l (nth l k)=(k:Int):=by
 refine BF hk Zb fun j hj=> ?_
 grind [Zg,List.pairwise_iff_getElem]
theorem Ly {l:List Vis} {v:Vis} (h:0<=vIx l v):(vIx l v).toNat<l.length/\nth l (vIx l v).toNat=v:=by
 grind [vIx,BE,List.findIdx?_eq_some_iff_getElem,Zg]
theorem A0 {l:List Vis} {v:Vis} {i:Nat} (h:v∈l.take i): ∃j,j<i/\j<l.length/\nth l j=v:=by
 obtain ⟨j,hj,rfl⟩:=List.mem_iff_getElem.1 h;simp at hj;exact ⟨j,Za,Za,by grind [Zg]⟩
theorem Ar {l:List Vis} {i j:Nat} (h:j<i) (hl:j<l.length):nth l j∈l.take i:=by
 grind [Zg,List.mem_iff_getElem]
theorem Cm {l:List Vis} :Uv l=false↔l.Nodup:=by
 rw [Uv,List.any_eq_false]
 constructor
 ·intro h;rw [List.nodup_iff_pairwise_ne,List.pairwise_iff_getElem];intro i j hi hj hij e;have:=h j (by grind);simp only [decide_eq_true_eq,V3] at this;refine this ?_;rw [Zg hj,<- e,<- Zg hi];exact Ar hij hi
 ·intro h j hj;simp only [decide_eq_true_eq,V3]
  grind [A0,Kx]
def Be (x:Inst) (l:List Vis) (n i:Nat):Bool:=(l.take n).foldl (fun on v=>if v.order=(i:Int) then !v.drp else on) (decide ((nth x.orders i).pick.place<0))
theorem Gz {x:Inst} {l:List Vis} {i:Nat} :Be x l 0 i=decide ((nth x.orders i).pick.place<0):=by simp [Be]
theorem Qz {x:Inst} {l:List Vis} {n i:Nat} (h:n<l.length):Be x l (n+1) i=if (nth l n).order=(i:Int) then !(nth l n).drp else Be x l n i:=by
 grind [Be,List.take_succ_eq_append_getElem,Zg]
structure SqOk (x:Inst) (l:List Vis):Prop where
 ne:l≠ []
 inr:Inr x l
 nd:l.Nodup
 pair: ∀v∈l,pairB x.orders l v=true
theorem Wg {x:Inst} {l:List Vis} (h:ZZ x l=0):SqOk x l:=by
 unfold ZZ at h
 split at h
 ·simp at h
 ·rename_i h1
  split at h
  ·simp at h
  ·split at h
   ·simp at h
   ·rename_i h3
    split at h
    ·simp at h
    ·rename_i h4;refine ⟨fun e=>h1 (.inl (by simp [e])),fun v hv=> ?_,Cm.1 (by grind),fun v hv=> ?_⟩
     ·grind [QC]
     grind
structure OwnV (x:Inst) (l:List Vis) (i:Nat):Prop where
 pick:0<=(nth x.orders i).pick.place->(⟨i,false⟩:Vis)∈l
 drp:0<=(nth x.orders i).drp.place->(⟨i,true⟩:Vis)∈l
 both:0<=(nth x.orders i).pick.place->0<=(nth x.orders i).drp.place->vIx l ⟨i,false⟩<vIx l ⟨i,true⟩
 isP:(⟨i,false⟩:Vis)∈l->0<=(nth x.orders i).pick.place
 isD:(⟨i,true⟩:Vis)∈l->0<=(nth x.orders i).drp.place
theorem SqOk.own {x:Inst} {l:List Vis} (h:SqOk x l) {i:Nat} (hi: ∃v∈l,v.order=(i:Int)):OwnV x l i:=by
 obtain ⟨v0,hv0,ho⟩:=hi
 have key: ∀v∈l,v.order=(i:Int)->v∈X6 x.orders i/\V8 l (-1) (X6 x.orders i)=true:=fun v hv hvo=>by
  have:=h.pair v hv;simp only [pairB,hvo,Int.toNat_natCast,Bool.and_eq_true,decide_eq_true_eq] at this;exact ⟨V3.1 this.1,this.2⟩
 obtain ⟨_,hasc⟩:=key v0 hv0 ho;have mem: ∀b:Bool,(⟨i,b⟩:Vis)∈l->(⟨i,b⟩:Vis)∈X6 x.orders i:=fun b hb=>(key _ hb rfl).1
 have hp:(⟨i,false⟩:Vis)∈X6 x.orders i->0<=(nth x.orders i).pick.place:=fun hm=>by
  unfold X6 at hm
  grind
 have hd:(⟨i,true⟩:Vis)∈X6 x.orders i->0<=(nth x.orders i).drp.place:=fun hm=>by
  unfold X6 at hm
  grind
 have m1: ∀v,-1<vIx l v->v∈l:=fun v hv=>V3.1 Za;unfold X6 at hasc
 by_cases c1:0<=(nth x.orders i).pick.place<;>by_cases c2:0<=(nth x.orders i).drp.place
 ·simp only [c1,c2,if_true,List.cons_append,List.nil_append,V8,Bool.and_true,Bool.and_eq_true,decide_eq_true_eq] at hasc;exact ⟨fun _=>m1 _ hasc.1,fun _=>m1 _ Za,fun _ _=>hasc.2,fun _=>c1,fun _=>c2⟩
 ·simp only [c1,c2,if_true,if_false,List.append_nil,V8,Bool.and_true,decide_eq_true_eq] at hasc;exact ⟨fun _=>m1 _ hasc,fun h=>absurd h c2,fun _ h=>absurd h c2,fun _=>c1,fun hm=>hd (mem _ hm)⟩
 ·simp only [c1,c2,if_true,if_false,List.nil_append,V8,Bool.and_true,decide_eq_true_eq] at hasc;exact ⟨fun h=>absurd h c1,fun _=>m1 _ hasc,fun h=>absurd h c1,fun hm=>hp (mem _ hm),fun _=>c2⟩
 ·exact ⟨fun h=>absurd h c1,fun h=>absurd h c2,fun h=>absurd h c1,fun hm=>hp (mem _ hm),fun hm=>hd (mem _ hm)⟩
theorem Y1 {l:List Vis} (hn:l.Nodup) {v:Vis} {n:Nat} :v∈l.take n↔0<=vIx l v/\vIx l v<(n:Int):=by
 constructor
 ·intro h;obtain ⟨j,h1,h2,rfl⟩:=A0 h
  grind [Kx]
 ·intro ⟨h1,h2⟩;obtain ⟨h3,h4⟩:=Ly h1
  grind [Ar]
theorem Gy {x:Inst} {l:List Vis} (h:SqOk x l) (i:Nat): ∀n,n<=l.length->Be x l n i=if (⟨i,true⟩:Vis)∈l.take n then false else if (⟨i,false⟩:Vis)∈l.take n then true else decide ((nth x.orders i).pick.place<0)
 | 0,_=>by simp [Be]
 | n+1,hn=>by
  have hk:n<l.length:=Za
  have hat:=Kx h.nd hk;rw [Qz hk,Gy h i n Za]
  by_cases c:(nth l n).order=(i:Int)
  ·rw [if_pos c];have ho:=h.own (i:=i) ⟨nth l n,Xb hk,c⟩
   cases hd:(nth l n).drp with
   | true =>
    have hv:nth l n=⟨i,true⟩:=by rw [<- c,<- hd]
    rw [hv] at hat;have:(⟨i,true⟩:Vis)∈l.take (n+1):=(Y1 h.nd).2 Za;rw [if_pos this];rfl
   | false =>
    have hv:nth l n=⟨i,false⟩:=by rw [<- c,<- hd]
    rw [hv] at hat;have h1:(⟨i,false⟩:Vis)∈l.take (n+1):=(Y1 h.nd).2 Za
    have h2: ¬(⟨i,true⟩:Vis)∈l.take (n+1):=fun hm=>by
     have h3:=List.mem_of_mem_take hm;have h4:=(Y1 h.nd).1 hm;have h5:=ho.both (ho.isP (List.mem_of_mem_take h1)) (ho.isD h3);omega
    rw [if_neg h2,if_pos h1];rfl
  ·rw [if_neg c]
   have e: ∀b:Bool,((⟨i,b⟩:Vis)∈l.take (n+1))=((⟨i,b⟩:Vis)∈l.take n):=fun b=>by
    rw [List.take_succ_eq_append_getElem hk,List.mem_append,<- Zg hk];refine propext ⟨fun hm=>hm.resolve_right fun hm=> ?_,.inl⟩;simp at hm;exact c (by rw [<- hm])
   simp only [e]
theorem OZ {x:Inst} {l:List Vis} (h:SqOk x l) {k i:Nat} (hk:k<l.length) (hi:(nth l k).order=(i:Int)):Be x l k i=(nth l k).drp:=by
 have hat:=Kx h.nd hk;have ho:=h.own (i:=i) ⟨nth l k,Xb hk,hi⟩;have hm:=Xb hk;rw [Gy h i k Za]
 cases hd:(nth l k).drp with
 | true =>
  have hv:nth l k=⟨i,true⟩:=by rw [<- hi,<- hd]
  rw [hv] at hat hm
  have h1: ¬(⟨i,true⟩:Vis)∈l.take k:=fun hm=>by have:=(Y1 h.nd).1 hm;omega
  rw [if_neg h1]
  by_cases c:0<=(nth x.orders i).pick.place
  ·have h2:=ho.both c (ho.isD hm);have h3:(⟨i,false⟩:Vis)∈l.take k:=(Y1 h.nd).2 ⟨V3.2 (ho.pick c),Za⟩
   grind
  grind
 | false =>
  have hv:nth l k=⟨i,false⟩:=by rw [<- hi,<- hd]
  rw [hv] at hat hm;have hp:=ho.isP hm
  have h1: ¬(⟨i,false⟩:Vis)∈l.take k:=fun hm=>by have:=(Y1 h.nd).1 hm;omega
  grind
theorem Ls {f g:Nat->Int} {i:Nat} (h: ∀q,q≠i->f q=g q): ∀n,i<n->((List.range n).map f).sum=((List.range n).map g).sum+(f i-g i):=by
 have same: ∀n,n<=i->((List.range n).map f).sum=((List.range n).map g).sum:=fun n hn=>by
  grind [List.map_congr_left]
 intro n
 induction n with
 | zero=>omega
 | succ n ih =>
  intro hi;simp only [List.range_succ,List.map_append,List.map_cons,List.map_nil,List.sum_append,List.sum_cons,List.sum_nil]
  grind
theorem Dp {f:Nat->Int} {b:Int} (hb:0<=b) (h: ∀q,0<=f q/\f q<=b): ∀n:Nat,0<=((List.range n).map f).sum/\((List.range n).map f).sum<=b*n
 | 0=>Zb
 | n+1=>by
  have ih:=Dp hb h n
  grind [List.range_succ]
theorem Vu {p:Nat->Bool} {f:Nat->Int} : ∀l:List Nat,((l.filter p).map f).sum=(l.map fun i=>if p i=true then f i else 0).sum
 | []=>rfl
 | a::l=>by
  rw [List.filter_cons,List.map_cons,List.sum_cons]
  by_cases h:p a=true
  ·rw [if_pos h,List.map_cons,List.sum_cons,Vu l,if_pos h]
  ·rw [if_neg h,Vu l,if_neg h];omega
def QQ (x:Inst) (l:List Vis) (n j:Nat):Int:=((List.range x.orders.length).map fun i=>if (Be x l n i&&Xt l i)=true then nth (nth x.orders i).load j else 0).sum
theorem JR {x:Inst} {l:List Vis} (h:SqOk x l) {k j:Nat} (hk:k<l.length):QQ x l (k+1) j=if (nth l k).drp=true then QQ x l k j-nth (nth x.orders (nth l k).order.toNat).load j else QQ x l k j+nth (nth x.orders (nth l k).order.toNat).load j:=by
 obtain ⟨v1,v2⟩:=h.inr _ (Xb hk);obtain ⟨i,hi⟩: ∃i:Nat,(nth l k).order=(i:Int):=⟨(nth l k).order.toNat,Za⟩;have hh:Xt l (i:Int)=true:=WH.2 ⟨_,Xb hk,hi⟩;have h1:=OZ h hk hi
 have h2:Be x l (k+1) i= !(nth l k).drp:=by simp_all [Qz]
 unfold QQ
 rw [Ls (f:=fun i=>if (Be x l (k+1) i&&Xt l i)=true then nth (nth x.orders i).load j else 0) (g:=fun i=>if (Be x l k i&&Xt l i)=true then nth (nth x.orders i).load j else 0) (i:=i) (fun q hq=>by
  have:Be x l (k+1) q=Be x l k q:=by rw [Qz hk,if_neg Za]
  grind) x.orders.length Za]
 grind
def X7 (x:Inst) (l:List Vis) (n:Nat):List Int:=(List.range (dimsOf x.types).toNat).map fun j=>QQ x l n j
def U0 (a b:List Int):List Int:=(List.range a.length).map fun j=>nth a j+nth b j
def Lr (a b:List Int):List Int:=(List.range a.length).map fun j=>nth a j-nth b j
theorem KK {x:Inst} {l:List Vis} {n:Nat} :(X7 x l n).length=(dimsOf x.types).toNat:=by simp [X7]
theorem YZ {f:Nat->Int} {n j:Nat} (h:j<n):nth ((List.range n).map f) j=f j:=by
 grind [Zg]
theorem DC {x:Inst} {l:List Vis} (h:SqOk x l) {k:Nat} (hk:k<l.length):X7 x l (k+1)=if (nth l k).drp=true then Lr (X7 x l k) (nth x.orders (nth l k).order.toNat).load else U0 (X7 x l k) (nth x.orders (nth l k).order.toNat).load:=by
 have key: ∀g:Nat->Int,(∀j,j<(dimsOf x.types).toNat->QQ x l (k+1) j=g j)->X7 x l (k+1)=(List.range (dimsOf x.types).toNat).map g:=fun g hg =>
  List.map_congr_left fun j hj=>hg j (List.mem_range.1 hj)
 split
 ·simp_all [Lr,JR,X7,YZ]
 simp_all [U0,JR,X7,YZ]
def Zy (p:Pln):AM.Obj:= .cells [.p (.list p.routes_c (p.routes.map X1)),.p (.list p.unserved_c (p.unserved.map eI))]
def Ur (r:Rte):Prop:=r.visits.length<=1048576/\r.rests.length<=1048576
def Ut (l:List Pt) (t:Int) (i:Nat):Bool:=decide ((nth l i).t<=t)&&decide (t<(nth l (i+1)).t)
def Cc (p q:Pt) (t:Int):Int:=p.a+((t-p.t)*(q.a-p.a)+q.t-p.t-1) / (q.t-p.t)
def Vm (l:List Pt) (t:Int):Int:=match (List.range (l.length-1)).find? (Ut l t) with
 | some i=>Cc (nth l i) (nth l (i+1)) t
 | none=>if (nth l 0).t<t then t+(nth l (l.length-1)).a-(nth l (l.length-1)).t else t+(nth l 0).a-(nth l 0).t
theorem CC {l:List Pt} {t:Int} {i:Nat} (hi:i+1<l.length) (hno: ∀j,j<i->Ut l t j=false) (h:Ut l t i=true):Vm l t=Cc (nth l i) (nth l (i+1)) t:=by
 have:(List.range (l.length-1)).find? (Ut l t)=some i:=by
  grind [List.find?_eq_some_iff_getElem]
 rw [Vm,this]
theorem J4 {l:List Pt} {t:Int} (hno: ∀j,j+1<l.length->Ut l t j=false):Vm l t=if (nth l 0).t<t then t+(nth l (l.length-1)).a-(nth l (l.length-1)).t else t+(nth l 0).a-(nth l 0).t:=by
 grind [Vm]
theorem AS {p q:Pt} {t:Int} (h1:p.t<=t) (h2:t<q.t) (hp:0<=p.t) (hq:q.t<=4096) (ha:p.a<=q.a) (hpa:0<=p.a) (hqa:q.a<=8192):0<=(t-p.t)*(q.a-p.a)/\(t-p.t)*(q.a-p.a)<=33554432:=by
 refine ⟨Int.mul_nonneg Za Za,?_⟩;have:(t-p.t)*(q.a-p.a)<=4096*8192:=Int.mul_le_mul Za Za Za Za;omega
theorem Zq {α:Type} [Inhabited α] {l:List α} {i:Nat} (h:i<l.length):nth l i∈l:=by grind [Zg]
def MB (a:Arc):Prop:=Wp a.travel/\a.slow.length<=16/\ ∀p∈a.slow,0<=p.t/\p.t<=4096/\0<=p.a/\p.a<=4096
def Vh (l:List Pt) (t:Int) (k:Nat):Int:=(l.take k).foldl (fun s p=>if p.t<=t then s+p.a else s) 0
def E6 (a:Arc) (t:Int):Int:=Vm a.travel t+Vh a.slow t a.slow.length
theorem QO {l:List Pt} {t:Int} {k:Nat} (h:k<l.length):Vh l t (k+1)=if (nth l k).t<=t then Vh l t k+(nth l k).a else Vh l t k:=by
 grind [Vh,List.take_succ_eq_append_getElem,Zg]
theorem Uu {l:List Pt} {t:Int} (hl: ∀p∈l,0<=p.a/\p.a<=4096): ∀k,k<=l.length->0<=Vh l t k/\Vh l t k<=4096*k
 | 0,_=>by simp [Vh]
 | k+1,h=>by
  have ih:=Uu (t:=t) hl k Za
  grind [Zq,QO]
theorem KQ {l:List Pt} {t:Int} (hl:Wp l) (ht:0<=t/\t<=1073741824):0<=Vm l t/\Vm l t<=1107304448:=by
 obtain ⟨⟨hl1,hl2⟩,hpt⟩:=hl;unfold Vm
 split
 ·rename_i i hi;have hm:=List.mem_of_find?_eq_some hi;have hs:=List.find?_some hi;simp at hm;simp only [Ut,Bool.and_eq_true,decide_eq_true_eq] at hs;obtain ⟨⟨p1,p2,p3,p4⟩,_⟩:=hpt i Za;obtain ⟨⟨q1,q2,q3,q4⟩,q5⟩:=hpt (i+1) Za;obtain ⟨r1,r2⟩:=q5 Za;rw [Nat.add_sub_cancel] at r1 r2;obtain ⟨s1,s2⟩:=AS hs.1 hs.2 p1 q2 r2 Za Za;have d1:0<=((t-(nth l i).t)*((nth l (i+1)).a-(nth l i).a)+(nth l (i+1)).t-(nth l i).t-1) / ((nth l (i+1)).t-(nth l i).t):=Int.ediv_nonneg Za Za;have d2:((t-(nth l i).t)*((nth l (i+1)).a-(nth l i).a)+(nth l (i+1)).t-(nth l i).t-1) / ((nth l (i+1)).t-(nth l i).t)<=33558528:=Int.le_trans (Int.ediv_le_self _ Za) Za
  unfold Cc;omega
 ·obtain ⟨⟨p1,p2,p3,p4⟩,_⟩:=hpt 0 Za;obtain ⟨⟨q1,q2,q3,q4⟩,_⟩:=hpt (l.length-1) Za;omega
theorem Hj {g:FuncId} {args:List V} {a b c:PV} {H:List AM.Obj} {K:V->List AM.Obj->Prop} (h:ACalls Tryz.prog g args [] fun x H'=>x= .tup [.p a,.p b,.p c]/\H'= []) (k:K (.tup [.p a,.p b,.p c]) H) (ha:Zx 0 args=true:=by rfl):ACalls Tryz.prog g args H K :=
 (h.behind ha H).mono fun x H' hq=>by
  obtain ⟨y,H1,⟨rfl,rfl⟩,rfl,rfl⟩:=hq
  grind [Bf,Wv]
theorem XF {g:FuncId} {args:List V} {a b:PV} {H:List AM.Obj} {K:V->List AM.Obj->Prop} (h:ACalls Tryz.prog g args [] fun x H'=>x= .tup [.p a,.p b]/\H'= []) (k:K (.tup [.p a,.p b]) H) (ha:Zx 0 args=true:=by rfl):ACalls Tryz.prog g args H K :=
 (h.behind ha H).mono fun x H' hq=>by
  obtain ⟨y,H1,⟨rfl,rfl⟩,rfl,rfl⟩:=hq
  grind [Bf,Wv]
def QE (n:Net) (p:Int):Bool:=decide (0<=p)&&decide (p<(n.places.length:Int))
def Wk (pr f t:Int) (a:Arc):Bool:=decide (a.src=f)&&decide (a.dst=t)&&decide (a.prof=pr)
def W7 : Arc:=⟨0,0,0,0,true,[],true,[]⟩
def Ye (n:Net) (pr f t:Int):Arc×Bool:=match n.arcs.find? (Wk pr f t) with | some a=>(a,true) | none=>(W7,false)
theorem FJ {n:Net} {pr f t:Int} {k:Nat} (hk:k<n.arcs.length) (hno: ∀j,j<k->Wk pr f t (nth n.arcs j)=false) (h:Wk pr f t (nth n.arcs k)=true):Ye n pr f t=(nth n.arcs k,true):=by
 have:n.arcs.find? (Wk pr f t)=some (nth n.arcs k):=by
  grind [List.find?_eq_some_iff_getElem,Zg]
 rw [Ye,this]
theorem FK {n:Net} {pr f t:Int} (hno: ∀j,j<n.arcs.length->Wk pr f t (nth n.arcs j)=false):Ye n pr f t=(W7,false):=by
 have:n.arcs.find? (Wk pr f t)=none:=by
  rw [List.find?_eq_none];intro a ha;obtain ⟨j,hj,rfl⟩:=List.mem_iff_getElem.1 ha
  grind [Zg]
 rw [Ye,this]
def KC (n:Net) (pr f t τ:Int):Int×Int×Int :=
 if (QE n f&&QE n t)=false then (0,0,11) else if f=t then (τ,0,0) else if (Ye n pr f t).2=true then (E6 (Ye n pr f t).1 τ,(Ye n pr f t).1.miles,0) else (0,0,12)
def netR (n:Net):Prop:=n.places.length<=1048576/\n.arcs.length<=1048576/\ ∀a∈n.arcs,MB a
theorem Jq {n:Net} {pr f t:Int} (h:(Ye n pr f t).2=true):(Ye n pr f t).1∈n.arcs:=by
 grind [Ye]
theorem CN {n:Nat} (h:n<10):QS n= [UInt8.ofNat (48+n)]:=by rw [QS,dif_pos h]
theorem Ih {n:Nat} (h:10<=n) (h2:n<100):QS n= [UInt8.ofNat (48+n / 10),UInt8.ofNat (48+n%10)]:=by
 rw [QS,dif_neg Za,CN Za];rfl
theorem KR {s:List UInt8} {k k':IntKind} {a b:Int} (h:0<=a/\a<=b/\b<=(s.length:Int)):V9 (some .string) s (.p (.int k a)) (.p (.int k' b))=some (.p (.str ((s.take b.toNat).drop a.toNat))):=by
 simp_all [V9]
def digT : List UInt8:=(List.range 36).map fun i=>UInt8.ofNat (if i<10 then 48+i else 87+i)
def smalT : List UInt8:=(List.range 100).flatMap fun i=> [UInt8.ofNat (48+i / 10),UInt8.ofNat (48+i%10)]
theorem Ij : ∀n,n<10->(digT.take (n+1)).drop n= [UInt8.ofNat (48+n)]:=by decide
theorem Hd : ∀n,n<100->(smalT.take (2*n+2)).drop (2*n)= [UInt8.ofNat (48+n / 10),UInt8.ofNat (48+n%10)]:=by decide+kernel
theorem Lm (n:Nat) (hn:n<100):PC 202 [.p (.int .i64 (n:Int))] (.str (QS n)):=by
 refine Zc Tryz.func202 rfl Of ?_;simp (disch:=omega) only [Tryz.f202,go_sem,seval];refine cD ?_ ?_<;>intro h<;>simp (disch:=omega) only [Sh.out h,go_sem,seval]
 ·rw [CN Za,KR (by simp;omega)]
  have e1:((n:Int)+1).toNat=n+1:=Za
  have e2:((n:Int)).toNat=n:=Za
  rw [e1,e2];refine (congrArg (fun z=>QW (some (V.p (PV.str z))) _) (Ij n Za)).mpr ?_;simp (disch:=omega) only [go_sem,seval]
 ·rw [Ih Za hn,KR (by simp;omega)]
  have e1:((n:Int)*2+2).toNat=2*n+2:=Za
  have e2:((n:Int)*2).toNat=2*n:=Za
  rw [e1,e2];refine (congrArg (fun z=>QW (some (V.p (PV.str z))) _) (Hd n Za)).mpr ?_;simp (disch:=omega) only [go_sem,seval]
theorem FO (n:Nat) (hn:n<100):PC 167 [.p (.int .i64 (n:Int)),.p (.int .i64 10)] (.str (QS n)):=by
 refine Zc Tryz.func167 rfl NT ?_
 have h0:(0:Int)<=(n:Int):=Za
 have h1:(n:Int)<100:=Za
 simp (disch:=omega) only [Tryz.f167,h0,h1,go_sem,seval];refine (Lm n hn).use ?_;simp (disch:=omega) only [go_sem,seval]
theorem IC (n:Nat) (hn:n<100):PC 122 [.p (.int .i64 (n:Int))] (.str (QS n)):=by
 refine Zc Tryz.func122 rfl NC ?_;simp (disch:=omega) only [Tryz.f122,go_sem,seval];refine (FO n hn).use ?_;simp (disch:=omega) only [go_sem,seval]
theorem OP (n:Nat) (hn:n<100):PC 89 [.p (.int .i64 (n:Int))] (.str (QS n)):=by
 refine Zc Tryz.func89 rfl L6 ?_;simp (disch:=omega) only [Tryz.f89,go_sem,seval];refine (IC n hn).use ?_;simp (disch:=omega) only [go_sem,seval]
theorem A7 (n a b:Int):PC 249 [.p (.int .i64 n),.p (.int .i64 a),.p (.int .i64 b)] (.bool (decide (a<=n)&&decide (n<=b))):=by
 refine Zc Tryz.func249 rfl OI ?_;simp (disch:=omega) only [Tryz.f249,go_sem,seval]
 repeat' (first | (refine gT ?_ ?_<;>intro hq<;>simp (disch:=omega) only [Sh.out hq,go_sem,seval,↓reduceIte]) | (refine KL (fun hq=> ?_) (fun hq=> ?_)<;>(try simp only [decide_eq_true_eq,decide_eq_false_iff_not,Classical.not_not] at hq)<;>simp (disch:=omega) only [Sh.out hq,go_sem,seval]) | (refine Cv (fun hq=> ?_) (fun hq=> ?_)<;>(try simp only [decide_eq_true_eq,decide_eq_false_iff_not,Classical.not_not] at hq)<;>simp (disch:=omega) only [Sh.out hq,go_sem,seval]))
 all_goals (simp;first | done | omega)
theorem GG (l:List Pt) (c:Bool) (hl:Wp l):PC 252 [.p (.list c (l.map DZ))] (.list true []):=by
 obtain ⟨⟨hl1,hl2⟩,hpt⟩:=hl;refine Zc Tryz.func252 rfl OL ?_
 have e1: ¬(l.length:Int)=0:=Za
 have e2: ¬(16:Int)<(l.length:Int):=Za
 simp (disch:=omega) only [Tryz.f252,e1,e2,go_sem,seval];refine Zm [0,19,20] (fun k:Nat=> [(3,.p (.list true [])),(21,.p (.int .i64 k))]) (fun _=> []) (fun k=>k<=l.length) (fun k=>l.length-k) 0 Zb (Weak.mk ?_) ?_
 ·simp (disch:=omega) only [go_sem,seval,↓reduceIte]
 ·intro k hk;refine Zi ?_;refine cD ?_ ?_<;>intro h<;>simp (disch:=omega) only [Sh.out h,go_sem,seval,↓reduceIte]
  ·have hk2:k<l.length:=Za
   obtain ⟨⟨p1,p2,p3,p4⟩,q⟩:=hpt k hk2;refine (OP k Za).use (Zi ?_);refine (A7 (nth l k).t 0 4096).use (Zi ?_);simp (disch:=omega) only [p1,p2,go_sem,seval];refine gF ?_ ?_<;>intro h3<;>simp (disch:=omega) only [Sh.out h3,go_sem,seval,↓reduceIte]
   ·omega
   ·refine cD ?_ ?_<;>intro h4<;>simp (disch:=omega) only [Sh.out h4,go_sem,seval,↓reduceIte]
    ·omega
    ·refine Yw (Zi ?_);refine gT ?_ ?_<;>intro h5<;>simp (disch:=omega) only [Sh.out h5,go_sem,seval,↓reduceIte]
     ·obtain ⟨r1,r2⟩:=q Za;refine gF ?_ ?_<;>intro h6<;>simp (disch:=omega) only [Sh.out h6,go_sem,seval,↓reduceIte]
      ·omega
      ·refine cD ?_ ?_<;>intro h7<;>simp (disch:=omega) only [Sh.out h7,go_sem,seval,↓reduceIte]
       ·omega
       ·exact ⟨k+1,Za,Za,wk⟩
     ·exact ⟨k+1,Za,Za,wk⟩
theorem CL (p:Pt) (t:Int) (h:0<=p.t/\p.t<=4096) (ht:0<=t/\t<=1073741824):PC 254 [.p (DZ p),.p (.int .i64 t)] (.int .i64 (p.t-t)):=by
 refine Zc Tryz.func254 rfl ON ?_;simp (disch:=omega) only [Tryz.f254,go_sem,seval,↓reduceIte]
theorem Lg (l:List Pt) (c:Bool) (hl:Wp l):PC 250 [.p (.list c (l.map DZ))] (.bool true):=by
 refine Zc Tryz.func250 rfl OJ ?_;simp (disch:=omega) only [Tryz.f250,go_sem,seval];refine (GG l c hl).use ?_;simp (disch:=omega) only [go_sem,seval]
structure PosT (l:List Pt) (t:Int) (i:Nat):Prop where
 le:i<=l.length
 lo: ∀j,j<i->(nth l j).t<t
 hi: ∀j,i<=j->j<l.length->t<=(nth l j).t
theorem TJ (l:List Pt) (c:Bool) (t:Int) (i:Nat) (hl:Wp l) (ht:0<=t/\t<=1073741824) (hi:PosT l t i):PT 253 [.p (.list c (l.map DZ)),.p (.int .i64 t),.fn (.func 254) [] []] [.p (.int .i64 (i:Int)),.p (.bool (decide (i<l.length)&&decide ((nth l i).t=t)))]:=by
 obtain ⟨⟨hl1,hl2⟩,hpt⟩:=hl;obtain ⟨hi1,hi2,hi3⟩:=hi;refine Zd [] Tryz.func253 rfl OM ?_;simp (disch:=omega) only [Tryz.f253,go_sem,seval];refine Zm [0,1,2,8] (fun q:Nat×Nat=> [(9,.p (.int .i64 q.1)),(10,.p (.int .i64 q.2))]) (fun _=> []) (fun q=>q.1<=i/\i<=q.2/\q.2<=l.length) (fun q=>q.2-q.1) (0,l.length) (by simp;omega) (Weak.mk ?_) ?_
 ·simp (disch:=omega) only [go_sem,seval,↓reduceIte]
 ·rintro ⟨a,b⟩ ⟨h1,h2,h3⟩;simp only at h1 h2 h3;refine Zi ?_;refine cD ?_ ?_<;>intro h<;>simp (disch:=omega) only [Sh.out h,go_sem,seval,↓reduceIte]
  ·have hm:(a+b) / 2<l.length:=Za
   obtain ⟨⟨p1,p2,p3,p4⟩,q⟩:=hpt _ hm
   have hs:((a:Int)+(b:Int)).fdiv (2^min 1 64)=(((a+b) / 2:Nat):Int):=by
    grind
   have em:((((a+b) / 2:Nat)):Int).toNat=(a+b) / 2:=Za
   have hnb:((a+b) / 2<i)↔(nth l ((a+b) / 2)).t-t<0:=by
    grind
   rw [hs];refine Zi ?_;refine (CL (nth l ((a+b) / 2)) t ⟨p1,p2⟩ ht).use (Zi ?_);refine cD ?_ ?_<;>intro h4<;>simp (disch:=omega) only [Sh.out h4,go_sem,seval,↓reduceIte]
   ·exact ⟨((a+b) / 2+1,b),⟨Za,h2,h3⟩,Za,wk⟩
   ·exact ⟨(a,(a+b) / 2),⟨h1,Za,Za⟩,Za,wk⟩
  ·have:a=i:=Za
   subst this;refine gT ?_ ?_<;>intro h4<;>simp (disch:=omega) only [Sh.out h4,go_sem,seval,↓reduceIte]
   ·have hm:a<l.length:=Za
    obtain ⟨⟨p1,p2,p3,p4⟩,q⟩:=hpt _ hm;refine (CL (nth l a) t ⟨p1,p2⟩ ht).use (Zi ?_);have e5:((nth l a).t-t=0)=((nth l a).t=t):=propext Za;exact we (by simp (disch:=omega) only [e5,hm,go_sem,seval])
   ·have hm: ¬a<l.length:=Za
    exact we (by simp (disch:=omega) only [hm,go_sem,seval])
theorem VQ {l:List Pt} (hl:Wp l) {k:Nat} (hk:k<l.length): ∀j,j<k->(nth l j).t<(nth l k).t:=by
 obtain ⟨_,hpt⟩:=hl
 induction k with
 | zero=>omega
 | succ k ih =>
  intro j hj;obtain ⟨_,q⟩:=hpt (k+1) hk
  grind
theorem Lb {l:List Pt} (hl:Wp l) (t:Int): ∃i,PosT l t i:=by
 have: ∀n,n<=l.length-> ∃i,i<=n/\(∀j,j<i->(nth l j).t<t)/\(i<n->t<=(nth l i).t):=by
  intro n
  induction n with
  | zero=>simp
  | succ n ih =>
   grind
 obtain ⟨i,h1,h2,h3⟩:=this l.length (Nat.le_refl _);refine ⟨i,h1,h2,fun j hj hjl=> ?_⟩;rcases Nat.lt_or_eq_of_le hj with h | h
 ·have:=VQ hl hjl i h;omega
 grind
theorem HK {l:List Pt} {t:Int} {i:Nat} (hl:Wp l) (h:PosT l t i) (hi:i<l.length) (e:(nth l i).t=t):Vm l t=(nth l i).a:=by
 by_cases g:i+1<l.length
 ·have m:=VQ hl g i Za;rw [CC g (fun j hj=> ?_) (by grind [Ut]),Cc]
  ·rw [e,Int.sub_self,Int.zero_mul,Int.zero_add];rw [Int.ediv_eq_zero_of_lt Za Za];omega
  ·have:(nth l (j+1)).t<=t:=by
    rcases Nat.lt_or_eq_of_le (show j+1<=i by omega) with h1 | h1
    ·have:=h.lo _ h1;omega
    grind
   simp [Ut];omega
 ·have hi1:i=l.length-1:=Za
  rw [J4 (fun j hj=> ?_)]
  ·split
   ·grind
   ·have:i=0:=by
     by_cases g2:i=0
     ·exact g2
     ·have:=h.lo 0 Za;omega
    grind
  ·have:(nth l (j+1)).t<=t:=by
    rcases Nat.lt_or_eq_of_le (show j+1<=i by omega) with h1 | h1
    ·have:=h.lo _ h1;omega
    grind
   simp [Ut];omega
theorem HM {l:List Pt} {t:Int} (hl:Wp l) (h:PosT l t 0) (e: ¬(nth l 0).t=t):Vm l t=t+(nth l 0).a-(nth l 0).t:=by
 have h0:=h.hi 0 (Nat.le_refl _) hl.1.1;rw [J4 (fun j hj=> ?_),if_neg Za]
 have:t<(nth l j).t:=by
  by_cases g:j=0
  ·grind
  ·have:=VQ hl (show j<l.length by omega) 0 Za;omega
 simp [Ut];omega
theorem HL {l:List Pt} {t:Int} (h:PosT l t l.length) (hl:0<l.length):Vm l t=t+(nth l (l.length-1)).a-(nth l (l.length-1)).t:=by
 rw [J4 (fun j hj=> ?_),if_pos (h.lo 0 hl)];have:=h.lo (j+1) hj;simp [Ut];omega
theorem E7 {l:List Pt} {t:Int} {i:Nat} (h:PosT l t i) (h0:0<i) (hi:i<l.length) (e: ¬(nth l i).t=t):Vm l t=Cc (nth l (i-1)) (nth l i) t:=by
 have e1:i-1+1=i:=Za
 have h1:=h.lo (i-1) Za;have h2:=h.hi i (Nat.le_refl _) hi;have:=CC (l:=l) (t:=t) (i:=i-1) Za (fun j hj=>by have:=h.lo (j+1) Za;simp [Ut];omega) (by grind [Ut]);rw [this,e1]
theorem JP {p q:Pt} {t:Int} (h1:p.t<=t) (h2:t<q.t) (hp:0<=p.t) (hq:q.t<=4096) (ha:p.a<=q.a) (hpa:0<=p.a) (hqa:q.a<=8192) :
  IntKind.i64.wrap (p.a+IntKind.i64.wrap ((IntKind.i64.wrap (IntKind.i64.wrap (IntKind.i64.wrap ((t-p.t)*(q.a-p.a))+(q.t-p.t))-1)).tdiv (q.t-p.t)))=Cc p q t:=by
 have hm:=AS h1 h2 hp hq ha hpa hqa;unfold Cc;generalize hM:(t-p.t)*(q.a-p.a)=m at hm
 have hd:0<=(m+(q.t-p.t)-1) / (q.t-p.t)/\(m+(q.t-p.t)-1) / (q.t-p.t)<=m+(q.t-p.t)-1:=by
  refine ⟨Int.ediv_nonneg Za Za,Int.ediv_le_self _ Za⟩
 rw [IntWalk.i64_in m Za,IntWalk.i64_in (m+(q.t-p.t)) Za,IntWalk.i64_in (m+(q.t-p.t)-1) Za,Int.tdiv_eq_ediv_of_nonneg Za,IntWalk.i64_in ((m+(q.t-p.t)-1) / (q.t-p.t)) Za,IntWalk.i64_in _ Za]
 congr 2
 omega
theorem BU (l:List Pt) (c:Bool) (t:Int) (hl:Wp l) (ht:0<=t/\t<=1073741824):PC 251 [.p (.list c (l.map DZ)),.p (.int .i64 t)] (.int .i64 (Vm l t)):=by
 obtain ⟨i,hi⟩:=Lb hl t;have hl':=hl;obtain ⟨⟨hl1,hl2⟩,hpt⟩:=hl';refine Zc Tryz.func251 rfl OK ?_;simp (disch:=omega) only [Tryz.f251,go_sem,seval];refine XF (TJ l c t i hl ht hi) (Zi ?_);obtain ⟨i1,i2,i3⟩:=id hi;refine cD ?_ ?_<;>intro h<;>simp (disch:=omega) only [Sh.out h,go_sem,seval,↓reduceIte]
 ·grind [HK]
 ·refine cD ?_ ?_<;>intro h0<;>simp (disch:=omega) only [Sh.out h0,go_sem,seval]
  ·have:i=0:=Za
   subst this;obtain ⟨p1,p2⟩:=hpt 0 Za;rw [HM hl hi (fun g=>h ⟨Za,g⟩)];refine Yw ?_;simp (disch:=omega) only [go_sem,seval,↓reduceIte]
  ·refine cD ?_ ?_<;>intro h1<;>simp (disch:=omega) only [Sh.out h1,go_sem,seval]
   ·have:i=l.length:=Za
    subst this;obtain ⟨p1,p2⟩:=hpt (l.length-1) Za;rw [HL hi Za]
    have e1:((l.length:Int)-1).toNat=l.length-1:=Za
    refine Yw ?_;simp (disch:=omega) only [go_sem,seval,↓reduceIte]
   ·have g1:i<l.length:=Za
    rw [E7 hi Za g1 (fun g=>h ⟨g1,g⟩)];have g2:=VQ hl g1 (i-1) Za;obtain ⟨p1,p2⟩:=hpt i g1;obtain ⟨p3,p4⟩:=hpt (i-1) Za
    have e1:((i:Int)-1).toNat=i-1:=Za
    have q1:=i2 (i-1) Za;have q2:=i3 i (Nat.le_refl _) g1;have q3: ¬(nth l i).t=t:=fun g=>h ⟨g1,g⟩;have q4:=p2 Za;refine Vo [9,10,11] 12 mixed Zh Zh Zh Zb ?_;simp (disch:=omega) only [e1,go_sem,seval];refine Uj 9 10 _ _ _ _ Zh (by refine Zi ?_;exact ⟨rfl,rfl⟩) (by refine Zi ?_;exact ⟨rfl,rfl⟩) ?_ ?_
    ·refine Xn 10 _ _ Zh (by refine Zi ?_;exact ⟨rfl,rfl⟩) (Xn 11 _ _ Zh (by refine Zi ?_;exact ⟨rfl,rfl⟩) (W3 ?_));refine Zi ?_;refine Yw (Zi ?_);exact congrArg (fun z=>V.p (PV.int IntKind.i64 z)) (JP Za Za Za Za Za Za Za)
    ·refine Xn 9 _ _ Zh (by refine Zi ?_;exact ⟨rfl,rfl⟩) (Xn 11 _ _ Zh (by refine Zi ?_;exact ⟨rfl,rfl⟩) (W3 ?_));refine Zi ?_;refine Yw (Zi ?_);exact congrArg (fun z=>V.p (PV.int IntKind.i64 z)) (JP Za Za Za Za Za Za Za)
theorem En (l:List Pt) (c:Bool) (t:Int) (hl:Wp l) (ht:0<=t/\t<=1073741824):PC 248 [.p (.list c (l.map DZ)),.p (.int .i64 t)] (.int .i64 (Vm l t)):=by
 refine Zc Tryz.func248 rfl OH ?_;simp (disch:=omega) only [Tryz.f248,go_sem,seval];refine (A7 t 0 1073741824).use (Zi ?_);simp (disch:=omega) only [ht,go_sem,seval];refine (Lg l c hl).use (Zi ?_);refine (BU l c t hl ht).use ?_;simp (disch:=omega) only [go_sem,seval]
theorem AC (n:Net) (p:Int) (hn:n.places.length<=1048576):PC 244 [.p (Io n),.p (.int .i64 p)] (.bool (QE n p)):=by
 refine Zc Tryz.func244 rfl OD ?_;simp (disch:=omega) only [Tryz.f244,go_sem,seval];refine gT ?_ ?_<;>intro h<;>simp (disch:=omega) only [Sh.out h,go_sem,seval,↓reduceIte]
 ·simp [QE,h]
 ·simp [QE,h]
theorem LA (a:Arc):PC 247 [.p (VD a)] (.agg [.int .i64 a.src,.int .i64 a.dst,.int .i64 a.prof]):=by
 refine Zc Tryz.func247 rfl OG ?_;simp (disch:=omega) only [Tryz.f247,go_sem,seval,↓reduceIte]
theorem I1 (a:Arc) (t:Int) (ha:MB a) (ht:0<=t/\t<=1073741824):PC 246 [.p (VD a),.p (.int .i64 t)] (.int .i64 (E6 a t)):=by
 obtain ⟨h1,h2,h3⟩:=ha;have hr:=KQ h1 ht;have hs:=Uu (t:=t) (fun p hp=>(h3 p hp).2.2);refine Zc Tryz.func246 rfl OF ?_;simp (disch:=omega) only [Tryz.f246,go_sem,seval];refine (En a.travel a.travel_c t h1 ht).use (Zi ?_);refine Zm [1,13,14] (fun k:Nat=> [(5,.p (.int .i64 (Vm a.travel t+Vh a.slow t k))),(15,.p (.int .i64 k))]) (fun _=> [DG a]) (fun k=>k<=a.slow.length) (fun k=>a.slow.length-k) 0 Zb (Weak.mk ?_) ?_
 ·simp (disch:=omega) only [DG,Vh,List.foldl_nil,go_sem,seval];simp
 ·intro k hk;have hsk:=hs k hk;simp (disch:=omega) only [DG,go_sem,seval];refine cD ?_ ?_<;>intro h<;>simp (disch:=omega) only [Sh.out h,go_sem,seval,↓reduceIte]
  ·have hk2:k<a.slow.length:=Za
   have hp:=h3 _ (Zq hk2);have hsn:=QO (t:=t) hk2;refine XL ?_ ?_<;>intro h4
   ·rw [if_pos h4] at hsn;exact ⟨k+1,Za,Za,Weak.mk (by simp (disch:=omega) only [hsn,Int.add_assoc,go_sem,seval])⟩
   ·rw [if_neg h4] at hsn;exact ⟨k+1,Za,Za,Weak.mk (by simp (disch:=omega) only [hsn,go_sem,seval])⟩
  grind [E6]
theorem I4 (n:Net) (pr f t:Int) (hn:n.arcs.length<=1048576):PT 245 [.p (Io n),.p (.int .i64 pr),.p (.int .i64 f),.p (.int .i64 t)] [.p (VD (Ye n pr f t).1),.p (.bool (Ye n pr f t).2)]:=by
 refine Zd [] Tryz.func245 rfl OE ?_;simp (disch:=omega) only [Tryz.f245,go_sem,seval];refine Zm [8,10,18,19] (fun k:Nat=> [(20,.p (.int .i64 k))]) (fun _=>OU n++ [DG W7,.cells [.p (.int .i64 f),.p (.int .i64 t),.p (.int .i64 pr)]]) (fun k=>k<=n.arcs.length/\ ∀j,j<k->Wk pr f t (nth n.arcs j)=false) (fun k=>n.arcs.length-k) 0 Zb (Weak.mk ?_) ?_
 ·simp (disch:=omega) only [OU,DG,W7,List.map_nil,List.cons_append,List.nil_append,go_sem,seval]
 ·rintro k ⟨hk,hno⟩;simp (disch:=omega) only [OU,DG,W7,List.map_nil,List.cons_append,List.nil_append,go_sem,seval];refine cD ?_ ?_<;>intro h<;>simp (disch:=omega) only [Sh.out h,go_sem,seval,↓reduceIte]
  ·have hk2:k<n.arcs.length:=Za
   have nx:Wk pr f t (nth n.arcs k)=false-> ∀j,j<k+1->Wk pr f t (nth n.arcs j)=false:=fun h=>Zn.2 ⟨hno,h⟩;refine Yw (Zi ?_);refine ZQ (LA (nth n.arcs k)) (Zi ?_);refine XL ?_ ?_<;>intro h1
   ·have e:=FJ hk2 hno (by simp [Wk,h1]);obtain ⟨rfl,rfl,rfl⟩:=h1;rw [e];exact we
   ·have e2:Wk pr f t (nth n.arcs k)=false:=by
     simp_all [Wk]
    exact ⟨k+1,⟨Za,nx e2⟩,Za,wk⟩
  ·have hkn:k=n.arcs.length:=Za
   subst hkn;rw [FK hno];exact we (by simp (disch:=omega) only [W7,List.map_nil,go_sem,seval])
theorem cH (n:Net) (pr f t τ:Int) (hn:netR n) (hτ:0<=τ/\τ<=1073741824):PT 236 [.p (Io n),.p (.int .i64 pr),.p (.int .i64 f),.p (.int .i64 t),.p (.int .i64 τ)] [.p (.int .i64 (KC n pr f t τ).1),.p (.int .i64 (KC n pr f t τ).2.1),.p (.int .i64 (KC n pr f t τ).2.2)]:=by
 refine Zd [] Tryz.func236 rfl Oz ?_;simp (disch:=omega) only [Tryz.f236,go_sem,seval];refine (AC n f hn.1).use (Zi ?_);refine gF ?_ ?_<;>intro h1<;>simp (disch:=omega) only [Sh.out h1,go_sem,seval,↓reduceIte]
 ·have e:KC n pr f t τ=(0,0,11):=by grind [KC]
  rw [e];exact we
 ·simp only [Bool.not_eq_false'] at h1;refine (AC n t hn.1).use (Zi ?_);refine cD ?_ ?_<;>intro h2<;>simp (disch:=omega) only [Sh.out h2,go_sem,seval]
  ·have e:KC n pr f t τ=(0,0,11):=by grind [KC]
   rw [e];exact we
  ·simp only [Bool.not_eq_false'] at h2;refine cD ?_ ?_<;>intro h3<;>simp (disch:=omega) only [Sh.out h3,go_sem,seval,↓reduceIte]
   ·have e:KC n pr f t τ=(τ,0,0):=by grind [KC]
    rw [e];exact we
   ·have cf:=I4 n pr f t hn.2.1;have hm:= @Jq n pr f t
    have e0:KC n pr f t τ=if (Ye n pr f t).2=true then (E6 (Ye n pr f t).1 τ,(Ye n pr f t).1.miles,0) else (0,0,12):=by grind [KC]
    rw [e0];generalize Ye n pr f t=A at cf hm ⊢;obtain ⟨a,b⟩:=A;simp only at cf hm ⊢;refine XF cf (Zi ?_);refine cD ?_ ?_<;>intro h4<;>simp (disch:=omega) only [Sh.out h4,go_sem,seval]
    ·have hb:b=false:=by grind
     subst hb;exact we (by simp (disch:=omega) only [go_sem,seval,↓reduceIte])
    ·have hb:b=true:=by grind
     subst hb;refine Yw (Zi ?_);refine ZQ (I1 a τ (hn.2.2 a (hm rfl)) hτ) (Zi ?_);exact we
structure Lab where
 ready:Int
 since:Int
 she:She
 deriving Inhabited
def zShe : She:=⟨false,0,true,[],0,0⟩
def Xz : Lab:=⟨0,0,zShe⟩
def Z6 (t:Typ) (L:Lab) (b:Bool):Int:=if b=true then L.ready+t.rest else L.ready
def Vc (L:Lab) (b:Bool):Int:=if b=true then 0 else L.since
def Ma (l:List Tim) (k:Nat) (d:Int) (b:Bool):List Tim:=l.set k { nth l k with dep:=d,rest:=b }
def Xw (k:Nat) (d:Int) (b:Bool) (s:She):She:=if k=0 then { s with rest:=b,dep:=d } else { s with times:=Ma s.times (k-1) d b }
def Ep (t:Typ) (sp:List Stp) (k:Nat):Int:=if k=0 then t.src else (nth sp (k-1)).place
def Md (t:Typ) (sp:List Stp) (k:Nat):Int:=if k=sp.length then t.dst else (nth sp k).place
def F1 (x:Inst) (t:Typ) (sp:List Stp) (k:Nat) (d:Int):Int×Int×Int:=KC x.net t.prof (Ep t sp k) (Md t sp k) d
def YM (t:Typ) (sp:List Stp) (k:Nat) (g:Int×Int×Int) (d s:Int) (h:She):Lab×Int :=
 if ¬g.2.2=0 then (Xz,12)
 else if k=sp.length then
  if t.cls<g.1 then (Xz,15) else if t.drive<s+g.1-d then (Xz,16)
  else (⟨g.1,s+g.1-d,{ h with fin:=g.1,miles:=h.miles+g.2.1 }⟩,0)
 else if (nth sp k).cls<max g.1 (nth sp k).opn then (Xz,14)
 else if t.drive<s+g.1-d then (Xz,16)
 else (⟨max g.1 (nth sp k).opn+(nth sp k).serv,s+g.1-d,{ h with times_c:=false,times:=h.times++ [⟨g.1,max g.1 (nth sp k).opn,0,false⟩],miles:=h.miles+g.2.1 }⟩,0)
def XG (x:Inst) (t:Typ) (sp:List Stp) (k:Nat) (L:Lab) (b:Bool):Lab×Int :=
 YM t sp k (F1 x t sp k (Z6 t L b)) (Z6 t L b) (Vc L b) (Xw k (Z6 t L b) b L.she)
def ZY (x:Inst) (t:Typ) (sp:List Stp) (k:Nat) (L:Lab) (b:Bool):Option Lab:=if (XG x t sp k L b).2=0 then some (XG x t sp k L b).1 else none
def Xp (x:Inst) (t:Typ) (sp:List Stp):Nat->Lab->List Bool->Lab×Int
 | _,L,[]=>(L,0)
 | k,L,b::bs=>if (XG x t sp k L b).2=0 then Xp x t sp (k+1) (XG x t sp k L b).1 bs else (Xz,(XG x t sp k L b).2)
def Xd (t:Typ) (st:Int):Lab:=⟨max t.opn st,0,zShe⟩
theorem WS {x:Inst} {t:Typ} {sp:List Stp} : ∀(bs:List Bool) (k:Nat) (L:Lab),Vs (ZY x t sp) k L bs=if (Xp x t sp k L bs).2=0 then some (Xp x t sp k L bs).1 else none
 | [],k,L=>by rfl
 | b::bs,k,L=>by
  rw [Vs,Xp,ZY]
  by_cases h:(XG x t sp k L b).2=0
  ·simp only [h,if_true];exact WS bs (k+1) _
  ·simp [h]
structure TrpOk (x:Inst) (t:Typ) (sp:List Stp):Prop where
 net:netR x.net
 mil: ∀a∈x.net.arcs,0<=a.miles/\a.miles<=10000
 opn:0<=t.opn/\t.opn<=t.cls/\t.cls<=4096
 drv:1<=t.drive/\t.drive<=4096
 rst:0<=t.rest/\t.rest<=4096
 stp: ∀s∈sp,0<=s.opn/\s.opn<=s.cls/\s.cls<=4096/\0<=s.serv/\s.serv<=4096
 len:sp.length<=20
structure LabR (k:Nat) (L:Lab):Prop where
 rdy:0<=L.ready/\L.ready<=8192
 snc: -(12288*(k:Int))<=L.since/\L.since<=4096
 mil:0<=L.she.miles/\L.she.miles<=10000*(k:Int)
theorem Iz {n:Net} {pr f t τ:Int} (hn:netR n) (hm: ∀a∈n.arcs,0<=a.miles/\a.miles<=10000) (hτ:0<=τ/\τ<=1073741824):(0<=(KC n pr f t τ).1/\(KC n pr f t τ).1<=1107369984)/\(0<=(KC n pr f t τ).2.1/\(KC n pr f t τ).2.1<=10000):=by
 unfold KC
 split
 ·simp
 ·split
  ·grind
  ·split
   ·rename_i h;have hA:=Jq h;have h1:=KQ (hn.2.2 _ hA).1 hτ;have h2:=Uu (t:=τ) (fun p hp=>((hn.2.2 _ hA).2.2 p hp).2.2) _ (Nat.le_refl _);have h3:=(hn.2.2 _ hA).2.1
    grind [E6]
   ·simp
theorem Qf {x t sp k L} (h:TrpOk x t sp) (hl:LabR k L) (b:Bool):0<=Z6 t L b/\Z6 t L b<=12288:=by
 have:=h.rst;have:=hl.rdy
 grind [Z6]
theorem AW {k L} (hl:LabR k L) (b:Bool): -(12288*(k:Int))<=Vc L b/\Vc L b<=4096:=by
 have:=hl.snc
 grind [Vc]
theorem CW {x t sp k L} (h:TrpOk x t sp) (hl:LabR k L) (b:Bool):(0<=(F1 x t sp k (Z6 t L b)).1/\(F1 x t sp k (Z6 t L b)).1<=1107369984)/\(0<=(F1 x t sp k (Z6 t L b)).2.1/\(F1 x t sp k (Z6 t L b)).2.1<=10000):=by
 have:=Qf h hl b;exact Iz h.net h.mil Za
theorem UG {k d b s} :(Xw k d b s).miles=s.miles:=by grind [Xw]
theorem Ec {k d b s} :(Xw k d b s).fin=s.fin:=by grind [Xw]
theorem Uk {k d b s} :(Xw k d b s).times.length=s.times.length:=by grind [Xw,Ma]
theorem C8 {x t sp k L b} (h:TrpOk x t sp) (hk:k<=sp.length) (hl:LabR k L) (he:(XG x t sp k L b).2=0):LabR (k+1) (XG x t sp k L b).1:=by
 have h1:=Qf h hl b;have h2:=AW hl b;obtain ⟨h3,h4⟩:=CW h hl b;have h5:=hl.mil;have h6:=h.opn;have h7:=h.drv;have hm:(Xw k (Z6 t L b) b L.she).miles=L.she.miles:=UG;unfold XG at he ⊢
 generalize F1 x t sp k (Z6 t L b)=g at *
 generalize Z6 t L b=d at *
 generalize Vc L b=s at *
 generalize Xw k d b L.she=m at *
 unfold YM at he ⊢
 split at he
 ·simp at he
 ·rename_i c1;rw [if_neg c1]
  split at he
  ·rename_i c2;rw [if_pos c2]
   split at he
   ·simp at he
   ·rename_i c3;rw [if_neg c3]
    split at he
    ·simp at he
    ·rename_i c4;rw [if_neg c4];exact ⟨by grind,by grind,by grind⟩
  ·rename_i c2;rw [if_neg c2];have h8:=h.stp _ (Zq (show k<sp.length by omega))
   split at he
   ·simp at he
   ·rename_i c3;rw [if_neg c3]
    split at he
    ·simp at he
    ·rename_i c4;rw [if_neg c4];exact ⟨by grind,by grind,by grind⟩
theorem Qy {x t sp k L b} (hl:L.she.times.length=k) (he:(XG x t sp k L b).2=0) (hk:k<sp.length):(XG x t sp k L b).1.she.times.length=k+1:=by
 have hm:(Xw k (Z6 t L b) b L.she).times.length=L.she.times.length:=Uk;unfold XG at he ⊢
 generalize F1 x t sp k (Z6 t L b)=g at *
 generalize Z6 t L b=d at *
 generalize Vc L b=s at *
 generalize Xw k d b L.she=m at *
 have hk2: ¬k=sp.length:=Za
 unfold YM at he ⊢
 grind
def Zu (m x:Lab):Bool:=decide (m.ready=x.ready)&&decide (m.since<=x.since)
theorem Bs {x t sp k} {m y z:Lab} {b:Bool} (hb:Zu m y=true) (hn:ZY x t sp k y b=some z): ∃u,ZY x t sp k m b=some u/\Zu u z=true:=by
 simp only [Zu,Bool.and_eq_true,decide_eq_true_eq] at hb;obtain ⟨hb1,hb2⟩:=hb
 have hd:Z6 t m b=Z6 t y b:=by simp [Z6,hb1]
 have hs:Vc m b<=Vc y b:=by grind [Vc]
 unfold ZY at hn ⊢;unfold XG at hn ⊢;rw [hd]
 generalize F1 x t sp k (Z6 t y b)=g at *
 generalize Z6 t y b=d at *
 generalize Vc y b=s at *
 generalize Vc m b=s2 at *
 generalize Xw k d b y.she=h1 at *
 generalize Xw k d b m.she=h2 at *
 unfold YM at hn ⊢
 by_cases c1:g.2.2=0
 ·by_cases c2:k=sp.length
  ·simp only [c1,c2,not_true,if_true,if_false] at hn ⊢
   by_cases c3:t.cls<g.1
   ·grind
   ·by_cases c4:t.drive<s+g.1-d
    ·grind
    ·have c5: ¬t.drive<s2+g.1-d:=Za
     simp only [c3,c4,if_false,if_true,Option.some.injEq] at hn;subst hn;refine ⟨_,by simp only [c3,c5,if_false,if_true];rfl,?_⟩;simp [Zu];omega
  ·simp only [c1,c2,not_true,if_false] at hn ⊢
   by_cases c3:(nth sp k).cls<max g.1 (nth sp k).opn
   ·grind
   ·by_cases c4:t.drive<s+g.1-d
    ·grind
    ·have c5: ¬t.drive<s2+g.1-d:=Za
     simp only [c3,c4,if_false,if_true,Option.some.injEq] at hn;subst hn;refine ⟨_,by simp only [c3,c5,if_false,if_true];rfl,?_⟩;simp [Zu];omega
 grind
def XT (L:Lab):Int:=L.she.fin
theorem Ax {x t sp} {y z:Lab} {b:Bool} (hn:ZY x t sp sp.length y b=some z):z.she.fin=z.ready:=by
 unfold ZY XG YM at hn
 grind
theorem Jx {x t sp} (ch:Nat->List Bool) (L:Lab):Yz XT none (Wn Zu (ZY x t sp) ch (sp.length+1) 0 [L])=Yz XT none (XO (ZY x t sp) ch (sp.length+1) 0 L):=by
 have h:=C1 XT Zu (ZY x t sp) ch (n:=sp.length+1) (Inv:=fun k y=>k=sp.length+1->y.she.fin=y.ready)
  (fun k y b z _ hn hk=>by
   grind [Ax]) (fun k m y b z _ _ hb hn=>Bs hb hn)
  (fun m y h1 h2 hb=>by
   simp only [Zu,Bool.and_eq_true,decide_eq_true_eq] at hb
   rw [XT,XT,h1 rfl,h2 rfl];omega) (sp.length+1) 0 [L] Za (fun y _ hk=>Za)
 rw [h];simp
def Yd (r:List Bool) (k:Nat):List Bool:=match r[k]? with | some b=> [b] | none=> [false,true]
theorem CT (r:List Bool) (n:Nat) (hn:r.length<=n): ∀(j k:Nat),k+j=r.length->Kg (Yd r) (n-k) k=(Xh (List.replicate (n-r.length) false)).map (r.drop k++ ·)
 | 0,k,h=>by
  have hk:k=r.length:=Za
  subst hk;rw [K9 (n:=n) _ _ _ (fun q hq=>by grind [Yd])];simp
 | j+1,k,h=>by
  have e:n-k=(n-(k+1))+1:=Za
  have hlt:k<r.length:=Za
  rw [e,Kg,CT r n hn j (k+1) Za]
  have:Yd r k= [r[k]]:=by simp [Yd,hlt]
  rw [this,List.flatMap_cons,List.flatMap_nil,List.append_nil,List.map_map,List.drop_eq_getElem_cons hlt]
  rfl
theorem Jp (r:List Bool) (n:Nat) (hn:r.length<=n):Kg (Yd r) n 0=(Xh (List.replicate (n-r.length) false)).map (r++ ·):=by
 have:=CT r n hn r.length 0 Za
 grind
def YP (r:List Bool) (n:Nat):List (List Bool):=(Xh (List.replicate (n-r.length) false)).map (r++ ·)
def Va (r:List Bool) (n:Nat):List Bool:=r++List.replicate (n-r.length) false
def Wz (x:Inst) (t:Typ) (sp:List Stp) (st:Int) (r:List Bool):She×Int :=
 match Yz XT none ((YP r (sp.length+1)).filterMap (Vs (ZY x t sp) 0 (Xd t st))) with
 | some L=>(L.she,0)
 | none=>(zShe,(Xp x t sp 0 (Xd t st) (Va r (sp.length+1))).2)
theorem J7 {x t sp} {st:Int} {r:List Bool} (hr:r.length<=sp.length+1):Wz x t sp st r=match Yz XT none (Wn Zu (ZY x t sp) (Yd r) (sp.length+1) 0 [Xd t st]) with
 | some L=>(L.she,0)
 | none=>(zShe,(Xp x t sp 0 (Xd t st) (Va r (sp.length+1))).2):=by
 rw [Jx,XO,Jp r _ hr];rfl
theorem AJ {x t sp} : ∀(bs:List Bool) (k:Nat) (L:Lab),L.she.times.length=k->k+bs.length=sp.length+1->0<bs.length->(Xp x t sp k L bs).2=0->(Xp x t sp k L bs).1.she.times.length=sp.length
 | [],k,L,h1,h2,h3,h=>by simp at h3
 | b::bs,k,L,h1,h2,_,h=>by
  rw [Xp] at h ⊢
  by_cases h4:(XG x t sp k L b).2=0
  ·simp only [h4,if_true] at h ⊢
   cases bs with
   | nil =>
    simp at h2;subst h2;rw [Xp];unfold XG at h4 ⊢;unfold YM at h4 ⊢
    split at h4
    ·simp at h4
    ·rename_i c1;rw [if_neg c1];simp only [if_true] at h4 ⊢
     split at h4
     ·simp at h4
     ·rename_i c2;rw [if_neg c2]
      split at h4
      ·simp at h4
      simp_all [if_neg,Uk]
   | cons b2 bs =>
    simp at h2;exact AJ (b2::bs) (k+1) _ (Qy h1 h4 Za) (by simp;omega) Zb h
  grind
theorem bestF_len {x t sp} {st:Int} {r:List Bool} (hr:r.length<=sp.length+1) (h:(Wz x t sp st r).2=0):(Wz x t sp st r).1.times.length=sp.length:=by
 unfold Wz at h ⊢
 cases hf:Yz XT none ((YP r (sp.length+1)).filterMap (Vs (ZY x t sp) 0 (Xd t st))) with
 | none =>
  rw [hf] at h;simp only at h ⊢;exfalso
  have hm:Va r (sp.length+1)∈YP r (sp.length+1):=by
   grind [YP,Va,Vp]
  have h2:Vs (ZY x t sp) 0 (Xd t st) (Va r (sp.length+1))=some (Xp x t sp 0 (Xd t st) (Va r (sp.length+1))).1:=by rw [WS,if_pos h]
  have h3:(Xp x t sp 0 (Xd t st) (Va r (sp.length+1))).1∈(YP r (sp.length+1)).filterMap (Vs (ZY x t sp) 0 (Xd t st)):=List.mem_filterMap.2 ⟨_,hm,h2⟩;generalize (YP r (sp.length+1)).filterMap (Vs (ZY x t sp) 0 (Xd t st))=l at hf h3
  cases l with
  | nil=>simp at h3
  | cons a l =>
   rw [Yz] at hf;obtain ⟨z,e,_⟩:=WG XT l a
   grind
 | some L =>
  simp only;have hm:=fmL_mem _ _ hf;obtain ⟨bs,hbs,hrun⟩:=List.mem_filterMap.1 hm;rw [WS] at hrun
  split at hrun
  ·rename_i h5;simp at hrun;subst hrun;obtain ⟨q,hq,rfl⟩:=List.mem_map.1 hbs;have hql:=fromB_len _ _ hq;simp at hql;exact AJ _ 0 _ rfl (by grind) (by grind) h5
  ·cases hrun
where
 fmL_mem: ∀(l:List Lab) (L:Lab),Yz XT none l=some L->L∈l
 | [],L,h=>by simp [Yz] at h
 | a::l,L,h=>by
  rw [Yz] at h;exact fmL_mem2 l a L h
 fmL_mem2: ∀(l:List Lab) (a L:Lab),Yz XT (some a) l=some L->L∈a::l
 | [],a,L,h=>by grind [Yz]
 | y::l,a,L,h=>by
  rw [Yz] at h
  split at h
  ·have:=fmL_mem2 l y L h;grind
  ·have:=fmL_mem2 l a L h;grind
 fromB_len: ∀(l q:List Bool),q∈Xh l->q.length=l.length
 | [],q,h=>by grind [Xh]
 | b::bs,q,h=>by
  rw [Xh] at h
  split at h
  ·obtain ⟨q',hq,rfl⟩:=List.mem_map.1 h;simp [fromB_len bs q' hq]
  ·rcases List.mem_append.1 h with h | h
   ·obtain ⟨q',hq,rfl⟩:=List.mem_map.1 h;simp [fromB_len bs q' hq]
   ·obtain ⟨q',hq,rfl⟩:=List.mem_map.1 h;simp [fromB_len (List.replicate bs.length false) q' hq]
 termination_by l=>l.length
 decreasing_by all_goals simp
def Yy (x:Inst) (v:Vis):Stp:=if v.drp=true then (nth x.orders v.order.toNat).drp else (nth x.orders v.order.toNat).pick
def Xy (x:Inst) (l:List Vis):List Stp:=l.map (Yy x)
def YR (t:Typ) (s:Int):Bool:=decide (0<=t.skills)&&decide (0<=s)&&(List.range 63).all fun i=> !s.toNat.testBit i||t.skills.toNat.testBit i
def UC (a c:List Int):Bool:=decide (a.length=c.length)&&(List.range a.length).all fun i=>decide (nth a i<=nth c i)
def Qr (x:Inst) (c:List Int) (l:List Vis):Bool:=(List.range (l.length+1)).all fun n=>UC (X7 x l n) c
def ZP (x:Inst) (r:Rte):Typ:=nth x.types r.typ.toNat
def Qj (l:List Vis) (i:Nat):Bool:= !((l.take i).any fun v=>decide (v.order=(nth l i).order))
def VE (k t:Int):Bool:=decide (k≠ -1)&&decide (k≠t)
def chgF (x:Inst) (l:List Vis) (t:Int):Nat->Int×Int
 | 0=>(0,0)
 | n+1=>if Qj l n=true then ((chgF x l t n).1+(if VE (nth x.orders (nth l n).order.toNat).now t=true then 1 else 0),(chgF x l t n).2+(if VE (nth x.orders (nth l n).order.toNat).last t=true then 1 else 0)) else chgF x l t n
def Ll (x:Inst) (r:Rte) (s:She):Sco :=
 ⟨(ZP x r).fixed+(ZP x r).perMile*s.miles+(ZP x r).perTick*(s.fin-(ZP x r).opn),(chgF x r.visits r.typ r.visits.length).1,(chgF x r.visits r.typ r.visits.length).2,(s.fin-(ZP x r).opn).tdiv 64*(s.fin-(ZP x r).opn).tdiv 64⟩
def X5 (x:Inst) (r:Rte):Int :=
 if ¬(0<=r.typ/\r.typ<(x.types.length:Int)) then 2
 else if ¬ZZ x r.visits=0 then ZZ x r.visits
 else if (r.visits.any fun v=> !YR (ZP x r) (nth x.orders v.order.toNat).skills)=true then 18
 else if Qr x (ZP x r).cap r.visits=false then 17
 else if ¬(0<=r.start/\r.start<=4096/\r.rests.length<=r.visits.length+1) then 2
 else 0
def XJ (x:Inst) (r:Rte):She×Int:=Wz x (ZP x r) (Xy x r.visits) r.start r.rests
def Z2 (x:Inst) (r:Rte):Int:=if X5 x r=0 then (XJ x r).2 else X5 x r
def CS (x:Inst) (r:Rte):She:=if Z2 x r=0 then (XJ x r).1 else zShe
def CR (x:Inst) (r:Rte):Sco:=if Z2 x r=0 then Ll x r (XJ x r).1 else zSco
def Nu (x:Inst) (v:Vis):Bool:=decide (0<=v.order)&&decide (v.order<(x.orders.length:Int))
def Lz (x:Inst) (v:Vis):Bool:=Nu x v&&decide (0<=(Yy x v).place)
@[go_sem high] theorem eY {k k':IntKind} {a b:Int} :Bl false [.p (.int k a),.p (.int k' b)]=some (.int k (max a b)):=by
 grind [Bl]
theorem XV {x:Inst} {l:List Vis} :(Xy x l).length=l.length:=by simp [Xy]
theorem Ck {x:Inst} {l:List Vis} {k:Nat} (h:k<l.length):nth (Xy x l) k=Yy x (nth l k):=by
 grind [Zg,Xy]
structure LdOk (x:Inst):Prop where
 ord:x.orders.length<=10
 typ:x.types.length<=1048576
 dim:1<=dimsOf x.types/\dimsOf x.types<=3
 load: ∀o∈x.orders,(o.load.length:Int)=dimsOf x.types/\ ∀n∈o.load,0<=n/\n<=1000
theorem VJ {x:Inst} (h:InstOk x):LdOk x:=by
 have ht:=h.types.1;simp only [rng,decide_eq_true_eq] at ht;have ho:=h.orders
 have h0:0<x.types.length:=Za
 have hcap:=h.types.2 0 h0;unfold Dr at hcap;obtain ⟨⟨⟨⟨⟨⟨⟨⟨_,_⟩,_⟩,_⟩,hcap⟩,_⟩,_⟩,_⟩,_⟩:=hcap;simp only [Fl,Bool.and_eq_true,decide_eq_true_eq,rng] at hcap;refine ⟨ho.1,Za,Za,fun o hm=> ?_⟩;obtain ⟨i,hi,rfl⟩:=List.mem_iff_getElem.1 hm;have:=(ho.2 i hi).load;rw [Zg hi] at this
 simp_all [loadOk,rng]
def L1 (l:List Int):PV:= .list false (l.map eI)
@[go_sem] theorem Nd (l:List Int):L1 l= .list false (l.map eI):=Eq.trans rfl rfl
def Qs (x:Inst) (l:List Vis):List (List Int):=(List.range (l.length+1)).map (X7 x l)
def Bt (s:Stp) (a:Int):Int×Int:=if max a s.opn>s.cls then (0,14) else (max a s.opn,0)
theorem Ia (s:Stp) (a:Int):PT 238 [.p (BA s),.p (.int .i64 a)] [.p (.int .i64 (Bt s a).1),.p (.int .i64 (Bt s a).2)]:=by
 refine Zd [] Tryz.func238 rfl OB ?_;simp (disch:=omega) only [Tryz.f238,go_sem,seval];refine cD ?_ ?_<;>intro h<;>simp (disch:=omega) only [Sh.out h,go_sem,seval]
 ·have e:Bt s a=(0,14):=by simp_all [Bt]
  rw [e];exact we
 ·have e:Bt s a=(max a s.opn,0):=by simp_all [Bt]
  rw [e];exact we
theorem GL (l:List Ord) (c:Bool) (p:Int) (hl:l.length<=1048576):PC 117 [.p (.list c (l.map Wr)),.p (.int .i64 p)] (.bool (decide (0<=p)&&decide (p<(l.length:Int)))):=by
 refine Zc Tryz.func117 rfl F8 ?_;simp (disch:=omega) only [Tryz.f117,go_sem,seval];refine gT ?_ ?_<;>intro h<;>simp (disch:=omega) only [Sh.out h,go_sem,seval,↓reduceIte]
 all_goals simp [h]
theorem I7 (x:Inst) (v:Vis) (ho:x.orders.length<=1048576) (hv:Nu x v=true) (hp:0<=(Yy x v).place):PT 73 [.p (.list x.orders_c (x.orders.map Wr)),.p (ZR v)] [.p (BA (Yy x v)),.p (.int .i64 0)]:=by
 refine Zd [] Tryz.func73 rfl aT ?_;simp (disch:=omega) only [Tryz.f73,go_sem,seval];have hv':=hv;rw [Nu] at hv';have ct:=GL x.orders x.orders_c v.order ho;rw [hv'] at ct;refine ct.use ?_;simp only [Bool.and_eq_true,decide_eq_true_eq] at hv';obtain ⟨h1,h2⟩:=hv'
 have hi:v.order.toNat<x.orders.length:=Za
 refine Zi ?_;refine cD ?_ ?_<;>intro hd<;>simp (disch:=omega) only [Sh.out hd,go_sem,seval,↓reduceIte]
 ·have e:Yy x v=(nth x.orders v.order.toNat).drp:=by simp [Yy,hd]
  rw [e] at hp ⊢
  have e3: ¬(nth x.orders v.order.toNat).drp.place<0:=Za
  simp (disch:=omega) only [e3,go_sem,seval];exact we
 ·have e:Yy x v=(nth x.orders v.order.toNat).pick:=by simp [Yy,hd]
  rw [e] at hp ⊢
  have e3: ¬(nth x.orders v.order.toNat).pick.place<0:=Za
  simp (disch:=omega) only [e3,go_sem,seval];exact we
theorem I3 (l:List Typ) (c:Bool) (ht:l.length<=1048576):PC 160 [.p (.list c (l.map Q0))] (.int .i64 (dimsOf l)):=by
 refine Zc Tryz.func160 rfl NP ?_;simp (disch:=omega) only [Tryz.f160,go_sem,seval];refine cD ?_ ?_<;>intro h1<;>simp (disch:=omega) only [Sh.out h1,go_sem,seval,↓reduceIte]
 ·grind [dimsOf]
 simp_all [dimsOf]
theorem I5 (a b:List Int) (c d:Bool) (ha:a.length<=1048576) (hb:b.length<=1048576):PC 190 [.p (.list c (a.map eI)),.p (.list d (b.map eI))] (.bool (UC a b)):=by
 refine Zc Tryz.func190 rfl N6 ?_;simp (disch:=omega) only [Tryz.f190,go_sem,seval];refine cD ?_ ?_<;>intro h1<;>simp (disch:=omega) only [Sh.out h1,go_sem,seval]
 ·grind [UC]
 ·have h1':a.length=b.length:=Za
  refine Zm [1,12,13] (fun k:Nat=> [(14,.p (.int .i64 k))]) (fun _=> []) (fun k=>k<=a.length/\ ∀j,j<k->nth a j<=nth b j) (fun k=>a.length-k) 0 Zb (Weak.mk ?_) ?_
  ·simp (disch:=omega) only [go_sem,seval]
  ·rintro k ⟨hk,hno⟩;refine Zi ?_;refine cD ?_ ?_<;>intro h2<;>simp (disch:=omega) only [Sh.out h2,go_sem,seval,↓reduceIte]
   ·have hk2:k<a.length:=Za
    refine XL ?_ ?_<;>intro h3
    ·grind [UC]
    ·exact ⟨k+1,⟨Za,Zn.2 ⟨hno,Za⟩⟩,Za,wk⟩
   ·have hkl:k=a.length:=Za
    simp_all [UC]
theorem I0 (t:Typ) (s:Int) (h1:t.skills<9223372036854775808) (h2:s<9223372036854775808):PC 187 [.p (Q0 t),.p (.int .i64 s)] (.bool (YR t s)):=by
 refine Zc Tryz.func187 rfl N3 ?_;simp (disch:=omega) only [Tryz.f187,go_sem,seval];refine gT ?_ ?_<;>intro c1<;>simp (disch:=omega) only [Sh.out c1,go_sem,seval,↓reduceIte]
 ·refine gT ?_ ?_<;>intro c2<;>simp (disch:=omega) only [Sh.out c2,go_sem,seval,↓reduceIte]
  ·obtain ⟨M,hM⟩: ∃M:Nat,t.skills=(M:Int):=⟨t.skills.toNat,Za⟩;obtain ⟨S,rfl⟩: ∃S:Nat,s=(S:Int):=⟨s.toNat,Za⟩;have hb:=KN (S:=S) (M:=M) Za
   have e:YR t (S:Int)=(List.range 63).all fun i=> !S.testBit i||M.testBit i:=by
    simp_all [YR]
   have hd:decide (IntKind.i64.wrap ((BitVec.ofInt 64 (S:Int)&&& ~~~BitVec.ofInt 64 (M:Int)).toNat:Int)=0)=((List.range 63).all fun i=> !S.testBit i||M.testBit i):=by
    grind
   rw [e,hM];exact congrArg (fun b=>V.p (PV.bool b)) hd
  grind [YR]
 grind [YR]
theorem O7 (a b:Int) (h: -1073741824<=a/\a<=1073741824/\ -1073741824<=b/\b<=1073741824):PC 198 [.p (.int .i64 a),.p (.int .i64 b)] (.int .i64 (a+b)):=by
 refine Zc Tryz.func198 rfl Od ?_;simp (disch:=omega) only [Tryz.f198,go_sem,seval]
theorem IN (a b:Int) (h: -1073741824<=a/\a<=1073741824/\ -1073741824<=b/\b<=1073741824):PC 199 [.p (.int .i64 a),.p (.int .i64 b)] (.int .i64 (a-b)):=by
 refine Zc Tryz.func199 rfl Oe ?_;simp (disch:=omega) only [Tryz.f199,go_sem,seval]
def EL (f:Nat->Int) (n k:Nat):List Int:=(List.range n).map fun j=>if j<k then f j else 0
theorem IQ {f:Nat->Int} {n k:Nat} :(EL f n k).length=n:=by simp [EL]
theorem Gr {f:Nat->Int} {n:Nat} :EL f n 0=List.replicate n 0:=by
 apply List.ext_getElem (by simp [EL]);grind [EL]
theorem Gq {f:Nat->Int} {n:Nat} :EL f n n=(List.range n).map f:=by
 simp_all [EL]
theorem IR {f:Nat->Int} {n k:Nat} (h:k<n):(EL f n k).set k (f k)=EL f n (k+1):=by
 apply List.ext_getElem (by simp [EL]);grind [EL]
theorem Jm (a b:List Int) (c d:Bool) (g:FuncId) (f:Int->Int->Int) (hl:a.length=b.length) (ha:a.length<=1048576)
  (hf: ∀j,j<a.length->ACalls Tryz.prog g [.p (.int .i64 (nth a j)),.p (.int .i64 (nth b j))] [] fun x H'=>x= .p (.int .i64 (f (nth a j) (nth b j)))/\H'= []) :
  PT 197 [.p (.list c (a.map eI)),.p (.list d (b.map eI)),.fn (.func g) [] []] [.p (.list false (((List.range a.length).map fun j=>f (nth a j) (nth b j)).map eI)),.p (.int .i64 0)]:=by
 refine Zd [9] Tryz.func197 rfl Oc ?_;simp (disch:=omega) only [Tryz.f197,go_sem,seval];refine cD ?_ ?_<;>intro h0<;>simp (disch:=omega) only [Sh.out h0,go_sem,seval]
 ·omega
 ·have hz:=Gr (f:=fun j=>f (nth a j) (nth b j)) (n:=a.length);have hml:=fun k=>IQ (f:=fun j=>f (nth a j) (nth b j)) (n:=a.length) (k:=k);refine Zz [9] [0,1,2,8,19] (fun k:Nat=> [(20,.p (.int .i64 k))]) (fun k=> [.elems 1 ((EL (fun j=>f (nth a j) (nth b j)) a.length k).map eI)]) (fun k=>k<=a.length) (fun k=>a.length-k) 0 Zb (Weak.mk ?_) ?_
  ·simp (disch:=omega) only [hz,go_sem,seval];rw [List.map_replicate];rfl
  ·intro k hk;refine Zi ?_;refine cD ?_ ?_<;>intro h1<;>simp (disch:=omega) only [Sh.out h1,go_sem,seval,↓reduceIte]
   ·have hk2:k<a.length:=Za
    have hs:=IR (f:=fun j=>f (nth a j) (nth b j)) (n:=a.length) hk2;have hk3:=hml k;refine Xg 12 mixed Zh Zh ?_;refine Zi ?_;refine ZQ (hf k hk2) ?_;refine Zi ?_;simp (disch:=first | omega | (simp only [List.length_cons,List.length_nil,List.length_append,List.length_map,List.length_take,List.length_drop]<;>omega)) only [go_sem,seval,↓reduceIte];refine ⟨k+1,Za,Za,Weak.mk ?_⟩;simp (disch:=omega) only [<- hs,go_sem,seval];rw [List.map_set];rfl
   ·have hkl:k=a.length:=Za
    subst hkl;rw [<- Gq];have hk3:=hml a.length;refine Zs (Weak.fz (o:=0) (by rfl)) ?_;refine Ze [] _ _ _ _ ?_;simp (disch:=omega) only [List.map_cons,List.map_nil,List.set_cons_zero,go_sem,seval];rw [if_pos hk3];exact we
theorem GE (a b:List Int) (c d:Bool) (hl:a.length=b.length) (ha:a.length<=1048576) (h: ∀j,j<a.length-> -1073741824<=nth a j/\nth a j<=1073741824/\ -1073741824<=nth b j/\nth b j<=1073741824):PT 161 [.p (.list c (a.map eI)),.p (.list d (b.map eI))] [.p (.list false ((U0 a b).map eI)),.p (.int .i64 0)]:=by
 refine Zd [] Tryz.func161 rfl NQ ?_;simp (disch:=omega) only [Tryz.f161,go_sem,seval];refine XF (Jm a b c d 198 (fun m n=>m+n) hl ha fun j hj=>O7 _ _ (h j hj)) ?_;simp (disch:=omega) only [U0,go_sem,seval];exact we
theorem O2 (a b:List Int) (c d:Bool) (hl:a.length=b.length) (ha:a.length<=1048576) (h: ∀j,j<a.length-> -1073741824<=nth a j/\nth a j<=1073741824/\ -1073741824<=nth b j/\nth b j<=1073741824):PT 162 [.p (.list c (a.map eI)),.p (.list d (b.map eI))] [.p (.list false ((Lr a b).map eI)),.p (.int .i64 0)]:=by
 refine Zd [] Tryz.func162 rfl NR ?_;simp (disch:=omega) only [Tryz.f162,go_sem,seval];refine XF (Jm a b c d 199 (fun m n=>m-n) hl ha fun j hj=>IN _ _ (h j hj)) ?_;simp (disch:=omega) only [Lr,go_sem,seval];exact we
theorem GI (x:Inst) (r:Rte) (ht:0<=r.typ/\r.typ<(x.types.length:Int)) (hv: ∀v∈r.visits,Nu x v=true) (hl:r.visits.length<=1048576) (hxl:x.types.length<=1048576) (hol:x.orders.length<=1048576)
  (hs:(ZP x r).skills<9223372036854775808) (ho: ∀o∈x.orders,o.skills<9223372036854775808) :
  PC 154 [.p (XQ x),.p (X1 r)] (.int .i64 (if (r.visits.any fun v=> !YR (ZP x r) (nth x.orders v.order.toNat).skills)=true then 18 else 0)):=by
 refine Zc Tryz.func154 rfl NK ?_;simp (disch:=omega) only [Tryz.f154,go_sem,seval];refine Zm [2,3,8,9] (fun k:Nat=> [(10,.p (.int .i64 k))]) (fun _=> [Zj x,.cells [.p (.int .i64 r.typ),.p (.int .i64 r.start),.p (.list r.rests_c (r.rests.map eB)),.p (.list r.visits_c (r.visits.map ZR))]]) (fun k=>k<=r.visits.length/\ ∀j,j<k->YR (ZP x r) (nth x.orders (nth r.visits j).order.toNat).skills=true) (fun k=>r.visits.length-k) 0 Zb (Weak.mk ?_) ?_
 ·simp (disch:=omega) only [Zj,go_sem,seval]
 ·rintro k ⟨hk,hno⟩;simp (disch:=omega) only [Zj,go_sem,seval];refine cD ?_ ?_<;>intro h1<;>simp (disch:=omega) only [Sh.out h1,go_sem,seval,↓reduceIte]
  ·have hk2:k<r.visits.length:=Za
   have hin:=hv _ (Zq hk2);simp only [Nu,Bool.and_eq_true,decide_eq_true_eq] at hin;obtain ⟨i1,i2⟩:=hin
   have hi:(nth r.visits k).order.toNat<x.orders.length:=Za
   have ho':=ho _ (Zq hi);refine Yw (Zi ?_);refine ZQ (I0 (ZP x r) (nth x.orders (nth r.visits k).order.toNat).skills Za Za) (Zi ?_);refine XL ?_ ?_<;>intro h2
   ·have:(r.visits.any fun v=> !YR (ZP x r) (nth x.orders v.order.toNat).skills)=true:=by
     grind [Zq]
    grind
   ·exact ⟨k+1,⟨Za,Zn.2 ⟨hno,by grind⟩⟩,Za,wk⟩
  ·have: ¬(r.visits.any fun v=> !YR (ZP x r) (nth x.orders v.order.toNat).skills)=true:=by
    rw [List.any_eq_true];rintro ⟨v,hv,e⟩;obtain ⟨j,hj,rfl⟩:=List.mem_iff_getElem.1 hv
    grind [Zg]
   grind
def Dn (x:Inst) (d:Nat) (ms:List Int) (k:Nat):List Int:=(ms.take k).foldl (fun s i=>if (nth x.orders i.toNat).pick.place<0 then U0 s (nth x.orders i.toNat).load else s) (List.replicate d 0)
theorem AY {x:Inst} {d:Nat} {ms:List Int} {k:Nat} (h:k<ms.length):Dn x d ms (k+1)=if (nth x.orders (nth ms k).toNat).pick.place<0 then U0 (Dn x d ms k) (nth x.orders (nth ms k).toNat).load else Dn x d ms k:=by
 grind [Dn,List.take_succ_eq_append_getElem,Zg]
theorem Do {x:Inst} {d:Nat} {ms:List Int} (hms: ∀i∈ms,∀j,j<d->0<=nth (nth x.orders i.toNat).load j/\nth (nth x.orders i.toNat).load j<=1000): ∀k,k<=ms.length->(Dn x d ms k).length=d/\ ∀j,j<d->0<=nth (Dn x d ms k) j/\nth (Dn x d ms k) j<=1000*k
 | 0,_=>by
  grind [Dn,Zg]
 | k+1,h=>by
  obtain ⟨h1,h2⟩:=Do hms k Za;rw [AY Za]
  split
  ·refine ⟨by simp [U0,h1],fun j hj=> ?_⟩;have a1:=h2 j hj;have a2:=hms _ (Zq (show k<ms.length by omega)) j hj;rw [U0,YZ Za];omega
  ·exact ⟨h1,fun j hj=>by have:=h2 j hj;omega⟩
theorem Lp (x:Inst) (S:Int) (d:Nat) (hd:d<=3) (hol:x.orders.length<=1048576) (hms: ∀i∈Z9 S 63,0<=i/\i<(x.orders.length:Int)) (hml:(Z9 S 63).length<=63)
  (hld: ∀o∈x.orders,o.load.length=d/\ ∀n∈o.load,0<=n/\n<=1000) :
  PC 159 [.p (XQ x),.p (.int .i64 S),.p (.int .i64 (d:Int))] (.list false ((Dn x d (Z9 S 63) (Z9 S 63).length).map eI)):=by
 have hmo: ∀i∈Z9 S 63,i.toNat<x.orders.length:=fun i hi=>by grind
 have hrg:=Do (x:=x) (d:=d) (ms:=Z9 S 63) fun i hi j hj=>by
  grind [Zq]
 refine Zc Tryz.func159 rfl NO ?_;simp (disch:=omega) only [Tryz.f159,go_sem,seval];refine (Ee S).useF (Zi ?_);refine Zs ((Weak.fz (o:=1) (by rfl)).trans (Weak.fz (o:=2) (by rfl))) ?_;simp (disch:=omega) only [List.map_cons,List.map_nil,List.set_cons_succ,List.set_cons_zero,List.length_replicate,eq_self,go_sem,seval]
 have hz:List.replicate d (PV.int .i64 0)=(Dn x d (Z9 S 63) 0).map eI:=by
  show _=(List.replicate d 0).map eI
  rw [List.map_replicate];rfl
 refine Zm [3,13,14] (fun k:Nat=> [(7,.p (.list false ((Dn x d (Z9 S 63) k).map eI))),(15,.p (.int .i64 k))]) (fun _=> [Zj x,.dead,.dead]) (fun k=>k<=(Z9 S 63).length) (fun k=>(Z9 S 63).length-k) 0 Zb (Weak.mk ?_) ?_
 ·simp (disch:=omega) only [Zj,hz,go_sem,seval]
 ·intro k hk;have hk1:=hrg k hk;have hsn:=fun h=>AY (x:=x) (d:=d) (ms:=Z9 S 63) (k:=k) h;simp (disch:=omega) only [Zj,go_sem,seval];refine cD ?_ ?_<;>intro h1<;>simp (disch:=omega) only [Sh.out h1,go_sem,seval,↓reduceIte]
  ·have hk2:k<(Z9 S 63).length:=Za
   have hm:=hms _ (Zq hk2);have hi:=hmo _ (Zq hk2);have hlo:=hld _ (Zq hi);have hsn:=hsn hk2;refine Zi ?_;refine XL ?_ ?_<;>intro h2
   ·rw [if_pos h2] at hsn;refine XF (GE (Dn x d (Z9 S 63) k) (nth x.orders (nth (Z9 S 63) k).toNat).load false (nth x.orders (nth (Z9 S 63) k).toNat).load_c Za Za fun j hj=> ?_) ?_
    ·have b1:=hk1.2 j Za;have b2:=hlo.2 _ (Zq (show j<(nth x.orders (nth (Z9 S 63) k).toNat).load.length by omega));omega
    ·refine Zi ?_;exact ⟨k+1,Za,Za,Weak.mk (by simp (disch:=omega) only [hsn,go_sem,seval])⟩
   ·rw [if_neg h2] at hsn;exact ⟨k+1,Za,Za,Weak.mk (by simp (disch:=omega) only [hsn,go_sem,seval])⟩
  grind
theorem BG {p:Nat->Bool} {n:Nat} (h: ∀i,n<=i->p i=false): ∀k,n<=k->(List.range k).filter p=(List.range n).filter p:=by
 intro k hk
 induction k with
 | zero=>grind
 | succ k ih =>
  grind [List.range_succ]
theorem bQ {x:Inst} {l:List Vis} (hi:Inr x l) (hn:x.orders.length<=10):Z9 ((Yi l:Nat):Int) 63=((List.range x.orders.length).filter fun (i:Nat)=>Xt l (i:Int)).map fun (i:Nat)=>(i:Int):=by
 have key: ∀i:Nat,i<=62->UP ((Yi l:Nat):Int) (i:Int)=Xt l (i:Int):=fun i h=>by
  rw [AQ _ _ h,Bool.eq_iff_iff,QA,WH]
  constructor
  ·rintro ⟨v,hv,e⟩;exact ⟨v,hv,by have:=hi v hv;omega⟩
  grind
 unfold Z9;rw [List.filter_congr (q:=fun (i:Nat)=>Xt l (i:Int)) (fun i hm=>key i (by grind)),BG (n:=x.orders.length) (fun i h=> ?_) 63 Za]
 cases hh:Xt l (i:Int) with
 | false=>rfl
 | true =>
  obtain ⟨v,hv,e⟩:=WH.1 hh;have:=hi v hv;omega
theorem FP {x:Inst} {d:Nat} : ∀(L:List Nat) (g:Nat->Int),(L.map fun (i:Nat)=>(i:Int)).foldl (fun s (i:Int)=>if (nth x.orders i.toNat).pick.place<0 then U0 s (nth x.orders i.toNat).load else s) ((List.range d).map g)=(List.range d).map fun j=>g j+(L.map fun i=>if (nth x.orders i).pick.place<0 then nth (nth x.orders i).load j else 0).sum
 | [],g=>Zb
 | i::L,g=>by
  rw [List.map_cons,List.foldl_cons,Int.toNat_natCast]
  by_cases h:(nth x.orders i).pick.place<0
  ·have e:U0 ((List.range d).map g) (nth x.orders i).load=(List.range d).map fun j=>g j+nth (nth x.orders i).load j:=by
    grind [U0,List.map_congr_left,YZ]
   rw [if_pos h,e,FP L]
   grind
  ·rw [if_neg h,FP L]
   grind
theorem EB {x:Inst} {l:List Vis} (hi:Inr x l) (hn:x.orders.length<=10):Dn x (dimsOf x.types).toNat (Z9 ((Yi l:Nat):Int) 63) (Z9 ((Yi l:Nat):Int) 63).length=X7 x l 0:=by
 rw [Dn,List.take_length,bQ hi hn];have:=FP (x:=x) (d:=(dimsOf x.types).toNat) ((List.range x.orders.length).filter fun (i:Nat)=>Xt l (i:Int)) fun _=>0
 have e:(List.range (dimsOf x.types).toNat).map (fun _=>(0:Int))=List.replicate (dimsOf x.types).toNat 0:=by
  simp_all [List.map_const']
 rw [e] at this;rw [this,X7];refine List.map_congr_left fun j _=> ?_;rw [Int.zero_add,Vu,QQ]
 congr 1
 refine List.map_congr_left fun i _=> ?_
 grind [Gz]
theorem Hh {x:Inst} {l:List Vis} {n j:Nat} {d:Nat} (hj:j<d) (hld: ∀o∈x.orders,o.load.length=d/\ ∀n∈o.load,0<=n/\n<=1000) (hn:x.orders.length<=10):0<=QQ x l n j/\QQ x l n j<=10000:=by
 have key:=Dp (f:=fun i=>if i<x.orders.length then (if (Be x l n i&&Xt l i)=true then nth (nth x.orders i).load j else 0) else 0) (b:=1000) Za (fun q=>by
  grind [Zq]) x.orders.length
 have e:QQ x l n j=((List.range x.orders.length).map fun i=>if i<x.orders.length then (if (Be x l n i&&Xt l i)=true then nth (nth x.orders i).load j else 0) else 0).sum:=by
  simp_all [QQ,List.map_congr_left]
 omega
theorem EV {x:Inst} {l:List Vis} {n j:Nat} (hj:j<(dimsOf x.types).toNat) (hd:LdOk x):0<=nth (X7 x l n) j/\nth (X7 x l n) j<=10000:=by
 rw [X7,YZ hj];exact Hh hj (fun o ho=>by obtain ⟨h1,h2⟩:=hd.load o ho;grind) hd.ord
def Cb (c m o w:Int):AM.Obj:= .cells [.p (.int .i64 c),.p (.int .i64 m),.p (.int .i64 o),.p (.int .i64 w)]
theorem K1 {x:Inst} {l:List Vis} {t:Int} : ∀n:Nat,(0<=(chgF x l t n).1/\(chgF x l t n).1<=n)/\(0<=(chgF x l t n).2/\(chgF x l t n).2<=n)
 | 0=>by simp [chgF]
 | n+1=>by
  have ih:=K1 (x:=x) (l:=l) (t:=t) n
  grind [chgF]
theorem SqOk.len {x:Inst} {l:List Vis} (h:SqOk x l) (hn:x.orders.length<=10):l.length<=20:=by
 have h1:=List.Nodup.length_le_of_subset (l₁ :=l) (l₂ :=(List.range 10).flatMap fun i:Nat=> [(⟨(i:Int),false⟩:Vis),⟨(i:Int),true⟩]) h.nd (fun v hv=>by
  obtain ⟨v1,v2⟩:=h.inr v hv;rw [List.mem_flatMap];refine ⟨v.order.toNat,List.mem_range.2 Za,?_⟩;obtain ⟨o,d⟩:=v
  have e:((o.toNat:Nat):Int)=o:=by grind
  simp_all)
 have h2:((List.range 10).flatMap fun i:Nat=> [(⟨(i:Int),false⟩:Vis),⟨(i:Int),true⟩]).length=20:=rfl;omega
theorem SqOk.vis {x:Inst} {l:List Vis} (h:SqOk x l) {v:Vis} (hv:v∈l):Lz x v=true:=by
 obtain ⟨v1,v2⟩:=h.inr v hv;obtain ⟨i,hi⟩: ∃i:Nat,v.order=(i:Int):=⟨v.order.toNat,Za⟩;have ho:=h.own (i:=i) ⟨v,hv,hi⟩
 have hpl:0<=(Yy x v).place:=by
  unfold Yy;rw [hi,Int.toNat_natCast]
  cases hd:v.drp with
  | true=>exact ho.isD (by rw [<- hi,<- hd];exact hv)
  | false=>exact ho.isP (by rw [<- hi,<- hd];exact hv)
 simp [Lz,Nu,v1,v2,hpl]
theorem IT {n:Net} (h:netOk n):netR n/\ ∀a∈n.arcs,0<=a.miles/\a.miles<=10000:=by
 obtain ⟨⟨⟨h1,_⟩,h2⟩,h3⟩:=h
 have ha: ∀a∈n.arcs,MB a/\0<=a.miles/\a.miles<=10000:=fun a hm=>by
  obtain ⟨i,hi,rfl⟩:=List.mem_iff_getElem.1 hm;have:=h3 i hi;unfold LL at this;rw [Zg hi] at this;obtain ⟨⟨⟨⟨⟨_,g1⟩,_⟩,g2⟩,g3⟩,g4⟩:=this;refine ⟨⟨g2,g3,fun p hp=> ?_⟩,g1.2.2.1,g1.2.2.2.1⟩;obtain ⟨j,hj,rfl⟩:=List.mem_iff_getElem.1 hp
  simp_all [Hc,Zg,Pp,rng]
 exact ⟨⟨Za,Za,fun a hm=>(ha a hm).1⟩,fun a hm=>(ha a hm).2⟩
theorem A5 {x:Inst} (hx:InstOk x) {i:Nat} (hi:i<x.types.length):(0<=(nth x.types i).opn/\(nth x.types i).opn<=(nth x.types i).cls/\(nth x.types i).cls<=4096)/\(1<=(nth x.types i).drive/\(nth x.types i).drive<=4096)/\(0<=(nth x.types i).rest/\(nth x.types i).rest<=4096) /\
  (0<=(nth x.types i).fixed/\(nth x.types i).fixed<=100000/\0<=(nth x.types i).perMile/\(nth x.types i).perMile<=100/\0<=(nth x.types i).perTick/\(nth x.types i).perTick<=100)/\(0<=(nth x.types i).skills/\(nth x.types i).skills<=1073741823):=by
 have ht:=hx.types.2 i hi
 simp_all [Dr,rng]
theorem A4 {x:Inst} {r:Rte} (hx:InstOk x) (ht:0<=r.typ/\r.typ<(x.types.length:Int)) (h:SqOk x r.visits):TrpOk x (ZP x r) (Xy x r.visits):=by
 have hti:r.typ.toNat<x.types.length:=Za
 obtain ⟨t1,t2,t3,_⟩:=A5 hx hti;obtain ⟨n1,n2⟩:=IT hx.net;refine ⟨n1,n2,t1,t2,t3,fun s hs=> ?_,by rw [XV];exact h.len hx.orders.1⟩;obtain ⟨v,hv,rfl⟩:=List.mem_map.1 hs;obtain ⟨v1,v2⟩:=h.inr v hv
 have hi:v.order.toNat<x.orders.length:=Za
 have ho:=hx.orders.2 _ hi;have hvis:=h.vis hv;have hp:=ho.pstp;have hd:=ho.dstp;simp only [stpOk,decide_eq_true_eq] at hp hd;simp only [Lz,Bool.and_eq_true,decide_eq_true_eq] at hvis;have h3:=hvis.2;unfold Yy at h3 ⊢
 grind
theorem AK {x t sp} (h:TrpOk x t sp): ∀(bs:List Bool) (k:Nat) (L:Lab),k+bs.length=sp.length+1->LabR k L->(Xp x t sp k L bs).2=0->LabR (sp.length+1) (Xp x t sp k L bs).1/\(bs≠ []->(Xp x t sp k L bs).1.she.fin=(Xp x t sp k L bs).1.ready)
 | [],k,L,hk,hl,h0=>by
  simp at hk;subst hk;exact ⟨hl,fun h=>absurd rfl h⟩
 | b::bs,k,L,hk,hl,h0=>by
  simp at hk;rw [Xp] at h0 ⊢
  split at h0
  ·rename_i c;rw [if_pos c];obtain ⟨h1,h2⟩:=AK h bs (k+1) _ Za (C8 h Za hl c) h0;refine ⟨h1,fun _=> ?_⟩
   cases bs with
   | nil =>
    simp at hk;subst hk;exact Ax (x:=x) (t:=t) (sp:=sp) (y:=L) (b:=b) (by rw [ZY,if_pos c];rfl)
   | cons b2 bs=>grind
  omega
theorem Fi {x t sp} {st:Int} {r:List Bool} (h:TrpOk x t sp) (hs:0<=st/\st<=4096) (hr:r.length<=sp.length+1) (h0:(Wz x t sp st r).2=0):(0<=(Wz x t sp st r).1.fin/\(Wz x t sp st r).1.fin<=8192)/\(0<=(Wz x t sp st r).1.miles/\(Wz x t sp st r).1.miles<=210000):=by
 have hL0:LabR 0 (Xd t st):=⟨by have:=h.opn;grind [Xd],by simp [Xd],by simp [Xd,zShe]⟩;have hl:=h.len
 have key: ∀bs∈YP r (sp.length+1),(Xp x t sp 0 (Xd t st) bs).2=0->(0<=(Xp x t sp 0 (Xd t st) bs).1.she.fin/\(Xp x t sp 0 (Xd t st) bs).1.she.fin<=8192)/\(0<=(Xp x t sp 0 (Xd t st) bs).1.she.miles/\(Xp x t sp 0 (Xd t st) bs).1.she.miles<=210000):=fun bs hbs he=>by
  obtain ⟨q,hq,rfl⟩:=List.mem_map.1 hbs;have hql:=bestF_len.fromB_len _ _ hq;simp at hql
  have hne:r++q≠ []:=fun e=>by
   simp_all
  obtain ⟨g1,g2⟩:=AK h (r++q) 0 _ (by simp;omega) hL0 he;rw [g2 hne];have:=g1.rdy;have:=g1.mil;omega
 unfold Wz at h0 ⊢
 cases hf:Yz XT none ((YP r (sp.length+1)).filterMap (Vs (ZY x t sp) 0 (Xd t st))) with
 | some L =>
  simp only;have:=bestF_len.fmL_mem _ _ hf
  grind [WS]
 | none =>
  grind [zShe]
theorem Ux {g:FuncId} {args:List V} {a b c:PV} {H:List AM.Obj} {K:V->List AM.Obj->Prop} (h:ACalls Tryz.prog g args [] fun x H'=>x= .tup [.p a,.p b,.p c]/\H'= []) (k:K (.tup [.p a,.p b,.p c]) H) (ha:Zx 0 args=true:=by rfl):ACalls Tryz.prog g args H K:=Hj h k ha
def K7 (x:Inst) (r:Rte):V:= .tup [.p (D0 (CS x r)),.p (Ip (CR x r)),.p (.int .i64 (Z2 x r))]
theorem Yo {x:Inst} {r:Rte} {e:Int} (h:Z2 x r=e) (h0:e≠0):K7 x r= .tup [.p (D0 zShe),.p (Ip zSco),.p (.int .i64 e)]:=by
 simp_all [K7,CS,CR]
def L4 {α:Type} (f:α->Bool) (l:List α):Int:=match l.findIdx? f with | some i=>(i:Int) | none=> -1
theorem FR {α:Type} [Inhabited α] {f:α->Bool} {l:List α} {k:Nat} (hk:k<l.length) (h:f (nth l k)=true) (hno: ∀j,j<k->f (nth l j)=false):L4 f l=(k:Int):=by
 have:l.findIdx? f=some k:=by
  grind [List.findIdx?_eq_some_iff_getElem,Zg]
 simp [L4,this]
theorem FT {α:Type} [Inhabited α] {f:α->Bool} {l:List α} (hno: ∀j,j<l.length->f (nth l j)=false):L4 f l= -1:=by
 have:l.findIdx? f=none:=by
  rw [List.findIdx?_eq_none_iff];intro x hx;obtain ⟨j,hj,rfl⟩:=List.mem_iff_getElem.1 hx
  grind [Zg]
 simp [L4,this]
theorem FS {α:Type} {f:α->Bool} {l:List α} :decide (0<=L4 f l)=l.any f:=by
 grind [L4]
theorem D6 (l:List (List Int)) (c:Bool) (g:FuncId) (caps:List V) (H:List AM.Obj) (f:List Int->Bool) (hl:l.length<=1048576) (hW:A9 H H.length H H) (hc:Zx H.length caps=true)
  (hg: ∀v∈l,ACalls Tryz.prog g (.p (L1 v)::caps) H fun x H'=>x= .p (.bool (f v))/\H'=H) :
  ACalls Tryz.prog 221 [.p (.list c (l.map L1)),.fn (.func g) [] caps] H fun x H'=>x= .p (.int .i64 (L4 f l))/\H'=H:=by
 refine Xl Tryz.func221 rfl Oo (Ze [] _ _ _ _ ?_);simp (disch:=omega) only [Tryz.f221,go_sem,seval];refine Zm [0,1,7] (fun k:Nat=> [(8,.p (.int .i64 k))]) (fun _=>H) (fun k=>k<=l.length/\ ∀j,j<k->f (nth l j)=false) (fun k=>l.length-k) 0 Zb (Weak.mk ?_) ?_
 ·simp (disch:=omega) only [hW,hc,go_sem,seval];simp
 ·rintro k ⟨hk,hno⟩;refine Zi ?_;refine cD ?_ ?_<;>intro h<;>simp (disch:=omega) only [Sh.out h,go_sem,seval,↓reduceIte]
  ·have hk2:k<l.length:=Za
   have hgk:=hg (nth l k) (Xb hk2);simp (disch:=omega) only [Nd,go_sem,seval] at hgk;refine hgk.useH (Zi ?_);refine cD ?_ ?_<;>intro h2<;>simp (disch:=omega) only [Sh.out h2,go_sem,seval,↓reduceIte]
   ·grind [FR]
   ·have h3:f (nth l k)=false:=Za
    refine ⟨k+1,⟨Za,Zn.2 ⟨hno,h3⟩⟩,Za,Weak.mk ?_⟩;simp (disch:=omega) only [hW,hc,go_sem,seval];simp
  grind [FT]
theorem Ke (l:List (List Int)) (c:Bool) (g:FuncId) (caps:List V) (H:List AM.Obj) (f:List Int->Bool) (hl:l.length<=1048576) (hW:A9 H H.length H H) (hc:Zx H.length caps=true)
  (hg: ∀v∈l,ACalls Tryz.prog g (.p (L1 v)::caps) H fun x H'=>x= .p (.bool (f v))/\H'=H) :
  ACalls Tryz.prog 188 [.p (.list c (l.map L1)),.fn (.func g) [] caps] H fun x H'=>x= .p (.bool (l.any f))/\H'=H:=by
 refine Xl Tryz.func188 rfl N4 (Ze [] _ _ _ _ ?_);simp (disch:=omega) only [Tryz.f188,go_sem,seval];refine (D6 l c g caps H f hl hW hc hg).useH (Zi ?_);rw [FS]
theorem GK (x:Inst) (r:Rte) (hx:InstOk x) (hl:r.visits.length<=1048576):PC 153 [.p (XQ x),.p (X1 r)] (.int .i64 (ZZ x r.visits)):=by
 have hf:=D7 hx;obtain ⟨h1,h2⟩:=List.append_eq_nil_iff.1 hx.rules
 have ha:x.apart.length<=1048576:=by
  have h3:=(List.append_eq_nil_iff.1 h1).1
  grind [jZ]
 have hb:x.before.length<=1048576:=by
  have h3:=(List.append_eq_nil_iff.1 h2).1
  grind [jZ]
 exact Ce x r (by have:=hf.len;omega) hl ha hb
theorem De {x:Inst} {l:List Vis} (hi:Inr x l) (hn:x.orders.length<=10):Ko l=(((Yi l:Nat):Int),0):=by
 rw [Ko,if_pos];rw [List.all_eq_true];intro v hv;have:=hi v hv;simp [Hy];omega
theorem oB {α:Type} (f:Nat->α) (n:Nat):(List.range n).map f++ [f n]=(List.range (n+1)).map f:=by grind [List.range_succ]
theorem V1 {P Q:Prop} (h:Q) (e:Q->P:=by intro h;simp (disch:=omega) only [List.map_cons,List.map_nil,List.set_cons_succ,List.set_cons_zero,go_sem,seval];exact h):P:=e h
theorem GH (x:Inst) (r:Rte) (hx:InstOk x) (hl:r.visits.length<=1048576) (h0:ZZ x r.visits=0) :
  PT 116 [.p (XQ x),.p (X1 r)] [.p (.list false ((Qs x r.visits).map L1)),.p (.int .i64 0)]:=by
 have hd:=VJ hx;have hsq:=Wg h0;have hol:=hd.ord;have hso:=WT r hl;rw [De hsq.inr hol] at hso
 have hD:dimsOf x.types=((dimsOf x.types).toNat:Int):=by have:=hd.dim;omega
 have cd:=I3 x.types x.types_c hd.typ;rw [hD] at cd;have hst:=EB hsq.inr hol
 have hmem: ∀i∈Z9 ((Yi r.visits:Nat):Int) 63,0<=i/\i<(x.orders.length:Int):=fun i hi=>by
  rw [bQ hsq.inr hol] at hi
  grind
 have cs:=Lp x ((Yi r.visits:Nat):Int) (dimsOf x.types).toNat (by have:=hd.dim;omega) Za hmem (Aq _ _) (fun o ho=>by have:=hd.load o ho;grind);rw [hst] at cs;refine Zd [20] Tryz.func116 rfl Ny ?_;simp (disch:=omega) only [Tryz.f116,go_sem,seval];refine (GK x r hx hl).use (Zi ?_);simp (disch:=omega) only [h0,go_sem,seval];refine XF hso (Zi ?_);refine Yw (Zi ?_);refine ZQ (cd) (Zi ?_);refine ZQ (cs) (Zi ?_);refine Zz [20] [2,37,38] (fun q:Nat×List (List Int)=> [(9,.p (.list false ((X7 x r.visits q.1).map eI))),(10,.sl 2 0 q.2.length q.2.length),(39,.p (.int .i64 q.1))]) (fun q=> [Zj x,ZE r,.elems 1 (q.2.map L1)]) (fun q=>q.1<=r.visits.length/\q.2=(List.range (q.1+1)).map (X7 x r.visits)) (fun q=>r.visits.length-q.1) (0,[X7 x r.visits 0]) Zb (Weak.mk ?_) ?_
 ·simp (disch:=omega) only [Zj,ZE,List.map_nil,List.map_cons,List.length_nil,List.length_cons,go_sem,seval]
 ·rintro ⟨k,o⟩ ⟨hk,ho⟩;simp only at hk ho
  have hol2:o.length=k+1:=by rw [ho];simp
  refine JQ ?_;refine cD ?_ ?_<;>intro h1<;>simp (disch:=omega) only [Sh.out h1,go_sem,seval,↓reduceIte]
  ·have hk2:k<r.visits.length:=Za
   obtain ⟨v1,v2⟩:=hsq.inr _ (Xb hk2)
   have hi:(nth r.visits k).order.toNat<x.orders.length:=Za
   obtain ⟨l1,l2⟩:=hd.load _ (Zq hi);have hsu:=DC hsq hk2;have hal:=KK (x:=x) (l:=r.visits) (n:=k);have hdm:=hd.dim
   have hrg: ∀j,j<(X7 x r.visits k).length-> -1073741824<=nth (X7 x r.visits k) j/\nth (X7 x r.visits k) j<=1073741824/\ -1073741824<=nth (nth x.orders (nth r.visits k).order.toNat).load j/\nth (nth x.orders (nth r.visits k).order.toNat).load j<=1073741824:=fun j hj=>by
    have b1:=EV (x:=x) (l:=r.visits) (n:=k) (j:=j) Za hd
    grind [Zq]
   refine cD ?_ ?_<;>intro h2<;>simp (disch:=omega) only [Sh.out h2,go_sem,seval,↓reduceIte]
   ·rw [if_pos h2] at hsu;refine XF (O2 (X7 x r.visits k) (nth x.orders (nth r.visits k).order.toNat).load false (nth x.orders (nth r.visits k).order.toNat).load_c Za Za hrg) (Zi ?_);exact ⟨(k+1,o++ [X7 x r.visits (k+1)]),⟨Za,by grind⟩,Za,Weak.mk (by simp (disch:=omega) only [hsu,List.length_append,List.length_cons,List.length_nil,List.map_append,List.map_cons,List.map_nil,go_sem,seval])⟩
   ·rw [if_neg (by rw [h2];simp)] at hsu;refine XF (GE (X7 x r.visits k) (nth x.orders (nth r.visits k).order.toNat).load false (nth x.orders (nth r.visits k).order.toNat).load_c Za Za hrg) (Zi ?_);exact ⟨(k+1,o++ [X7 x r.visits (k+1)]),⟨Za,by grind⟩,Za,Weak.mk (by simp (disch:=omega) only [hsu,List.length_append,List.length_cons,List.length_nil,List.map_append,List.map_cons,List.map_nil,go_sem,seval])⟩
  ·have hkl:k=r.visits.length:=Za
   subst hkl;refine Zs (Weak.fz (o:=2) (by rfl)) (Ze [] _ _ _ _ (V1 ?_));rw [Qs,<- ho];exact we
theorem Iv (x:Inst) (r:Rte) (a:List Int) (htl:x.types.length<=1048576) (hty:0<=r.typ/\r.typ<(x.types.length:Int)) (ha:a.length<=1048576) (hc:(ZP x r).cap.length<=1048576) :
  ACalls Tryz.prog 189 [.p (L1 a),.ptr 0 0,.ptr 1 0] [Zj x,ZE r] fun y H'=>y= .p (.bool (!UC a (ZP x r).cap))/\H'= [Zj x,ZE r]:=by
 have hti:r.typ.toNat<x.types.length:=Za
 refine Zd [] Tryz.func189 rfl N5 ?_;simp (disch:=omega) only [Tryz.f189,Zj,ZE,go_sem,seval];refine (I5 a (ZP x r).cap false (ZP x r).cap_c ha hc).use (Zi ?_);exact we
theorem GF (x:Inst) (r:Rte) (hx:InstOk x) (hl:r.visits.length<=1048576) (hty:0<=r.typ/\r.typ<(x.types.length:Int)) (h0:ZZ x r.visits=0) :
  PC 155 [.p (XQ x),.p (X1 r)] (.int .i64 (if Qr x (ZP x r).cap r.visits=true then 0 else 17)):=by
 have hd:=VJ hx;have htl:=hd.typ
 have hti:r.typ.toNat<x.types.length:=Za
 have hcp:(ZP x r).cap.length<=1048576:=by
  have hcap:=hx.types.2 _ hti;unfold Dr at hcap;obtain ⟨⟨⟨⟨⟨⟨⟨⟨_,_⟩,_⟩,_⟩,hcap⟩,_⟩,_⟩,_⟩,_⟩:=hcap;simp only [Fl,Bool.and_eq_true,decide_eq_true_eq,rng] at hcap;unfold ZP;omega
 have hll:(Qs x r.visits).length=r.visits.length+1:=by simp [Qs]
 have hvl:=(Wg h0).len hd.ord
 have ZO:(Qs x r.visits).any (fun a=> !UC a (ZP x r).cap)= !Qr x (ZP x r).cap r.visits:=by
  grind [Qr,Qs]
 have e1: ¬r.typ<0:=Za
 have e2: ¬(x.types.length:Int)<=r.typ:=Za
 refine Zc Tryz.func155 rfl NL ?_;simp (disch:=omega) only [Tryz.f155,e1,e2,go_sem,seval];refine XF (GH x r hx hl h0) (Zi ?_);refine (Ke (Qs x r.visits) false 189 [.ptr 0 0,.ptr 1 0] [Zj x,ZE r] (fun a=> !UC a (ZP x r).cap) Za (by simp (disch:=omega) only [Zj,ZE,go_sem,seval]) (by rfl) (fun a ha=>Iv x r a htl hty ?_ hcp)).useH ?_
 ·obtain ⟨j,_,rfl⟩:=List.mem_map.1 ha;rw [KK];have:=hd.dim;omega
 ·refine JQ ?_;rw [ZO];refine cD ?_ ?_<;>intro h1<;>simp (disch:=omega) only [Sh.out h1,go_sem,seval]
  ·grind
  grind
theorem Yr {β:Type} [Inhabited β] {a b:List β} (hl:a.length=b.length) (h: ∀j,j<a.length->nth a j=nth b j):a=b:=by
 grind [List.ext_getElem,Zg]
theorem FE (a b:List Int) (c d:Bool) (ha:a.length<=1048576) (hb:b.length<=1048576):PC 63 [.p (.list c (a.map eI)),.p (.list d (b.map eI))] (.bool (decide (a=b))):=by
 refine Zc Tryz.func63 rfl aS ?_;simp (disch:=omega) only [Tryz.f63,go_sem,seval];refine cD ?_ ?_<;>intro h1<;>simp (disch:=omega) only [Sh.out h1,go_sem,seval]
 ·rw [decide_eq_false fun e=>h1 (by rw [e])]
 ·have hl:a.length=b.length:=Za
  refine Zm [0,1,12] (fun k:Nat=> [(13,.p (.int .i64 k))]) (fun _=> []) (fun k=>k<=a.length/\ ∀j,j<k->nth a j=nth b j) (fun k=>a.length-k) 0 Zb (Weak.mk ?_) ?_
  ·simp (disch:=omega) only [go_sem,seval]
  ·rintro k ⟨hk,hno⟩;simp (disch:=omega) only [go_sem,seval];refine cD ?_ ?_<;>intro h2<;>simp (disch:=omega) only [Sh.out h2,go_sem,seval]
   ·have hk2:k<a.length:=Za
    refine Yw ?_;simp (disch:=omega) only [go_sem,seval];refine cD ?_ ?_<;>intro h3<;>simp (disch:=omega) only [Sh.out h3,go_sem,seval]
    ·rw [decide_eq_false fun e=>h3 (by rw [e])]
    ·exact ⟨k+1,⟨Za,Zn.2 ⟨hno,Za⟩⟩,Za,wk⟩
   ·rw [decide_eq_true (Yr hl fun j hj=>hno j Za)]
theorem FD (a b:List Bool) (c d:Bool) (ha:a.length<=1048576) (hb:b.length<=1048576):PC 104 [.p (.list c (a.map eB)),.p (.list d (b.map eB))] (.bool (decide (a=b))):=by
 refine Zc Tryz.func104 rfl Nv ?_;simp (disch:=omega) only [Tryz.f104,go_sem,seval];refine cD ?_ ?_<;>intro h1<;>simp (disch:=omega) only [Sh.out h1,go_sem,seval]
 ·rw [decide_eq_false fun e=>h1 (by rw [e])]
 ·have hl:a.length=b.length:=Za
  refine Zm [0,1,12] (fun k:Nat=> [(13,.p (.int .i64 k))]) (fun _=> []) (fun k=>k<=a.length/\ ∀j,j<k->nth a j=nth b j) (fun k=>a.length-k) 0 Zb (Weak.mk ?_) ?_
  ·simp (disch:=omega) only [go_sem,seval,↓reduceIte]
  ·rintro k ⟨hk,hno⟩;refine Zi ?_;refine cD ?_ ?_<;>intro h2<;>simp (disch:=omega) only [Sh.out h2,go_sem,seval,↓reduceIte]
   ·have hk2:k<a.length:=Za
    refine Yw (Zi ?_);refine cD ?_ ?_<;>intro h3<;>simp (disch:=omega) only [Sh.out h3,go_sem,seval,↓reduceIte]
    ·rw [decide_eq_false fun e=>by grind]
    ·exact ⟨k+1,⟨Za,Zn.2 ⟨hno,by grind⟩⟩,Za,wk⟩
   grind [Yr]
theorem FG (a b:List Vis) (c d:Bool) (ha:a.length<=1048576) (hb:b.length<=1048576):PC 105 [.p (.list c (a.map ZR)),.p (.list d (b.map ZR))] (.bool (decide (a=b))):=by
 refine Zc Tryz.func105 rfl Nw ?_;simp (disch:=omega) only [Tryz.f105,go_sem,seval];refine cD ?_ ?_<;>intro h1<;>simp (disch:=omega) only [Sh.out h1,go_sem,seval]
 ·rw [decide_eq_false fun e=>h1 (by rw [e])]
 ·have hl:a.length=b.length:=Za
  refine Zm [0,1,12] (fun k:Nat=> [(13,.p (.int .i64 k))]) (fun _=> []) (fun k=>k<=a.length/\ ∀j,j<k->nth a j=nth b j) (fun k=>a.length-k) 0 Zb (Weak.mk ?_) ?_
  ·simp (disch:=omega) only [go_sem,seval,↓reduceIte]
  ·rintro k ⟨hk,hno⟩;refine Zi ?_;refine cD ?_ ?_<;>intro h2<;>simp (disch:=omega) only [Sh.out h2,go_sem,seval,↓reduceIte]
   ·have hk2:k<a.length:=Za
    refine Yw (Zi ?_);refine cD ?_ ?_<;>intro h3<;>simp (disch:=omega) only [Sh.out h3,go_sem,seval,↓reduceIte]
    ·rw [decide_eq_false fun e=>by grind]
    ·exact ⟨k+1,⟨Za,Zn.2 ⟨hno,Cn.2 (by grind)⟩⟩,Za,wk⟩
   grind [Yr]
def Yx (a b:Rte):Bool:=decide (a.typ=b.typ)&&(decide (a.start=b.start)&&(decide (a.rests=b.rests)&&decide (a.visits=b.visits)))
theorem Lk (a b:Rte) (ha:Ur a) (hb:Ur b):PC 62 [.p (X1 a),.p (X1 b)] (.bool (Yx a b)):=by
 obtain ⟨a1,a2⟩:=ha;obtain ⟨b1,b2⟩:=hb;refine Zc Tryz.func62 rfl aR ?_;simp (disch:=omega) only [Tryz.f62,go_sem,seval];unfold Yx;refine gT ?_ ?_<;>intro h1<;>simp (disch:=omega) only [Sh.out h1,go_sem,seval];rw [decide_eq_true h1,Bool.true_and];refine gT ?_ ?_<;>intro h2<;>simp (disch:=omega) only [Sh.out h2,go_sem,seval];rw [decide_eq_true h2,Bool.true_and];refine (FD a.rests b.rests a.rests_c b.rests_c a2 b2).use ?_;simp (disch:=omega) only [go_sem,seval];refine gT ?_ ?_<;>intro h3<;>simp (disch:=omega) only [Sh.out h3,go_sem,seval]
 rw [decide_eq_true h3,Bool.true_and];refine (FG a.visits b.visits a.visits_c b.visits_c a1 b1).use ?_;simp (disch:=omega) only [go_sem,seval]
theorem FF (a b:List Rte) (c d:Bool) (ha:a.length<=1048576) (hb:b.length<=1048576) (h1: ∀r∈a,Ur r) (h2: ∀r∈b,Ur r) :
  PC 61 [.p (.list c (a.map X1)),.p (.list d (b.map X1)),.fn (.func 62) [] []] (.bool (decide (a.length=b.length)&&(List.range a.length).all fun k=>Yx (nth a k) (nth b k))):=by
 refine Zc Tryz.func61 rfl aQ ?_;simp (disch:=omega) only [Tryz.f61,go_sem,seval];refine cD ?_ ?_<;>intro h3<;>simp (disch:=omega) only [Sh.out h3,go_sem,seval]
 ·rw [decide_eq_false fun e=>h3 (by rw [e]),Bool.false_and]
 ·have hl:a.length=b.length:=Za
  rw [decide_eq_true hl,Bool.true_and];refine Zm [1,2,15,16] (fun k:Nat=> [(17,.p (.int .i64 k))]) (fun _=> []) (fun k=>k<=a.length/\ ∀j,j<k->Yx (nth a j) (nth b j)=true) (fun k=>a.length-k) 0 Zb (Weak.mk ?_) ?_
  ·simp (disch:=omega) only [go_sem,seval]
  ·rintro k ⟨hk,hno⟩;simp (disch:=omega) only [go_sem,seval];refine cD ?_ ?_<;>intro h4<;>simp (disch:=omega) only [Sh.out h4,go_sem,seval]
   ·have hk2:k<a.length:=Za
    refine (Lk (nth a k) (nth b k) (h1 _ (Zq hk2)) (h2 _ (Zq Za))).use ?_;simp (disch:=omega) only [go_sem,seval]
    cases hs:Yx (nth a k) (nth b k) with
    | false =>
     rw [List.all_eq_false.2 ⟨k,List.mem_range.2 hk2,by rw [hs];simp⟩];simp (disch:=omega) only [hs,Bool.not_false,go_sem,seval]
    | true =>
     simp (disch:=omega) only [hs,Bool.not_true,Bool.false_eq_true,go_sem,seval];exact ⟨k+1,⟨Za,Zn.2 ⟨hno,hs⟩⟩,Za,wk⟩
   ·rw [List.all_eq_true.2 fun j hj=>hno j (by have:=List.mem_range.1 hj;omega)]
def VX (p q:Pln):Bool:=(decide (p.routes.length=q.routes.length)&&(List.range p.routes.length).all fun k=>Yx (nth p.routes k) (nth q.routes k))&&decide (p.unserved=q.unserved)
theorem I6 (p q:Pln) (hp:p.routes.length<=1048576/\p.unserved.length<=1048576/\ ∀r∈p.routes,Ur r) (hq:q.routes.length<=1048576/\q.unserved.length<=1048576/\ ∀r∈q.routes,Ur r) :
  PC 24 [.p (Qg p),.p (Qg q)] (.bool (VX p q)):=by
 refine Zc Tryz.func24 rfl aA ?_;simp (disch:=omega) only [Tryz.f24,go_sem,seval];unfold VX;have ce:=FF p.routes q.routes p.routes_c q.routes_c hp.1 hq.1 hp.2.2 hq.2.2
 generalize (decide (p.routes.length=q.routes.length)&&(List.range p.routes.length).all fun k=>Yx (nth p.routes k) (nth q.routes k))=e at *
 refine (ce).use ?_;simp (disch:=omega) only [go_sem,seval]
 cases e with
 | false=>simp (disch:=omega) only [Bool.false_and,go_sem,seval]
 | true =>
  rw [Bool.true_and];simp (disch:=omega) only [go_sem,seval];refine (FE p.unserved q.unserved p.unserved_c q.unserved_c hp.2.1 hq.2.1).use ?_;simp (disch:=omega) only [go_sem,seval]
theorem Us {a b:Rte} :Yx a b=true↔a.typ=b.typ/\a.start=b.start/\a.rests=b.rests/\a.visits=b.visits:=by
 simp [Yx]
theorem Jd (a b:Rte) (ha:Ur a) (hb:Ur b):PC 48 [.p (X1 a),.p (X1 b)] (.bool (Yx a b)):=by
 obtain ⟨a1,a2⟩:=ha;obtain ⟨b1,b2⟩:=hb
 have no:(a.typ=b.typ/\a.start=b.start/\a.rests=b.rests/\a.visits=b.visits->False)->Yx a b=false:=fun h=>by
  grind [Us]
 refine Zc Tryz.func48 rfl aM ?_;simp (disch:=omega) only [Tryz.f48,go_sem,seval];refine gF ?_ ?_<;>intro h1<;>simp (disch:=omega) only [Sh.out h1,go_sem,seval,↓reduceIte]
 ·grind
 ·refine gF ?_ ?_<;>intro h2<;>simp (disch:=omega) only [Sh.out h2,go_sem,seval,↓reduceIte]
  ·grind
  ·refine gF ?_ ?_<;>intro h3<;>simp (disch:=omega) only [Sh.out h3,go_sem,seval,↓reduceIte]
   ·grind
   ·refine cD ?_ ?_<;>intro h4<;>simp (disch:=omega) only [Sh.out h4,go_sem,seval]
    ·grind
    ·have l1:a.rests.length=b.rests.length:=Za
     have l2:a.visits.length=b.visits.length:=Za
     refine Zm [2,3] (fun k:Nat=> [(5,.p (.int .i64 k))]) (fun _=> [ZE a,ZE b]) (fun k=>k<=a.rests.length/\ ∀j,j<k->nth a.rests j=nth b.rests j) (fun k=>a.rests.length-k) 0 Zb (Weak.mk ?_) ?_
     ·simp (disch:=omega) only [ZE,go_sem,seval]
     ·rintro k ⟨hk,hno⟩;simp (disch:=omega) only [ZE,go_sem,seval];refine cD ?_ ?_<;>intro h5<;>simp (disch:=omega) only [Sh.out h5,go_sem,seval,↓reduceIte]
      ·have hk2:k<a.rests.length:=Za
       refine Yw (Zi ?_);refine XL ?_ ?_<;>intro h6
       ·grind
       ·exact ⟨k+1,⟨Za,Zn.2 ⟨hno,by grind⟩⟩,Za,wk⟩
      ·have e1:a.rests=b.rests:=Yr l1 fun j hj=>hno j Za;refine Zm [2,3] (fun k:Nat=> [(6,.p (.int .i64 k))]) (fun _=> [ZE a,ZE b]) (fun k=>k<=a.visits.length/\ ∀j,j<k->nth a.visits j=nth b.visits j) (fun k=>a.visits.length-k) 0 Zb (Weak.mk ?_) ?_
       ·simp (disch:=omega) only [ZE,go_sem,seval]
       ·rintro k ⟨hk,hno2⟩;simp (disch:=omega) only [ZE,go_sem,seval];refine cD ?_ ?_<;>intro h7<;>simp (disch:=omega) only [Sh.out h7,go_sem,seval,↓reduceIte]
        ·have hk2:k<a.visits.length:=Za
         refine Yw (Zi ?_);refine XL ?_ ?_<;>intro h8
         ·grind
         ·exact ⟨k+1,⟨Za,Zn.2 ⟨hno2,Cn.2 (by grind)⟩⟩,Za,wk⟩
        grind [Us,Yr]
theorem VY {p q:Pln} (h:(p.routes.length=q.routes.length/\(∀k,k<p.routes.length->Yx (nth p.routes k) (nth q.routes k)=true)/\p.unserved=q.unserved)->False):VX p q=false:=by
 simp_all [VX]
theorem JO {p q:Pln} (h1:p.routes.length=q.routes.length) (h2: ∀k,k<p.routes.length->Yx (nth p.routes k) (nth q.routes k)=true) (h3:p.unserved=q.unserved):VX p q=true:=by
 simp_all [VX]
theorem Ha (p q:Pln) (hp:p.routes.length<=1048576/\p.unserved.length<=1048576/\ ∀r∈p.routes,Ur r) (hq:q.routes.length<=1048576/\q.unserved.length<=1048576/\ ∀r∈q.routes,Ur r) :
  PC 20 [.p (Qg p),.p (Qg q)] (.bool (VX p q)):=by
 have p1:=hp.1;have p2:=hp.2.1;refine Zc Tryz.func20 rfl T8 ?_;simp (disch:=omega) only [Tryz.f20,go_sem,seval];refine gF ?_ ?_<;>intro h1<;>simp (disch:=omega) only [Sh.out h1,go_sem,seval,↓reduceIte]
 ·grind [VY]
 ·refine cD ?_ ?_<;>intro h2<;>simp (disch:=omega) only [Sh.out h2,go_sem,seval]
  ·grind [VY]
  ·have l1:p.routes.length=q.routes.length:=Za
   have l2:p.unserved.length=q.unserved.length:=Za
   refine Zm [2,3] (fun k:Nat=> [(5,.p (.int .i64 k))]) (fun _=> [Zy p,Zy q]) (fun k=>k<=p.routes.length/\ ∀j,j<k->Yx (nth p.routes j) (nth q.routes j)=true) (fun k=>p.routes.length-k) 0 Zb (Weak.mk ?_) ?_
   ·simp (disch:=omega) only [Zy,go_sem,seval]
   ·rintro k ⟨hk,hno⟩;simp (disch:=omega) only [Zy,go_sem,seval];refine cD ?_ ?_<;>intro h5<;>simp (disch:=omega) only [Sh.out h5,go_sem,seval,↓reduceIte]
    ·have hk2:k<p.routes.length:=Za
     refine Yw (Zi ?_);refine ZQ (Jd (nth p.routes k) (nth q.routes k) (hp.2.2 _ (Zq hk2)) (hq.2.2 _ (Zq Za))) (Zi ?_)
     cases hs:Yx (nth p.routes k) (nth q.routes k) with
     | false =>
      rw [VY fun h=>by grind];simp (disch:=omega) only [Bool.not_false,go_sem,seval]
     | true =>
      simp (disch:=omega) only [Bool.not_true,go_sem,seval];exact ⟨k+1,⟨Za,Zn.2 ⟨hno,hs⟩⟩,Za,wk⟩
    ·refine Zm [2,3] (fun k:Nat=> [(6,.p (.int .i64 k))]) (fun _=> [Zy p,Zy q]) (fun k=>k<=p.unserved.length/\ ∀j,j<k->nth p.unserved j=nth q.unserved j) (fun k=>p.unserved.length-k) 0 Zb (Weak.mk ?_) ?_
     ·simp (disch:=omega) only [Zy,go_sem,seval]
     ·rintro i ⟨hi,hno2⟩;simp (disch:=omega) only [Zy,go_sem,seval];refine cD ?_ ?_<;>intro h7<;>simp (disch:=omega) only [Sh.out h7,go_sem,seval,↓reduceIte]
      ·have hk2:i<p.unserved.length:=Za
       refine Yw (Zi ?_);refine XL ?_ ?_<;>intro h8
       ·grind [VY]
       ·exact ⟨i+1,⟨Za,Zn.2 ⟨hno2,Za⟩⟩,Za,wk⟩
      grind [JO,Yr]
def K6 (x:Inst) (t:Typ) (r:Rte) (c:Bool) (sp:List Stp):PV:= .agg [.list x.net.places_c (x.net.places.map eS),.list x.net.arcs_c (x.net.arcs.map VD),.list x.types_c (x.types.map Q0),.list x.orders_c (x.orders.map Wr),.list x.apart_c (x.apart.map eP),.list x.before_c (x.before.map eP),.str t.name,.int .i64 t.count,.int .i64 t.src,.int .i64 t.dst,.list t.cap_c (t.cap.map eI),.int .i64 t.skills,.int .i64 t.prof,.int .i64 t.opn,.int .i64 t.cls,.int .i64 t.drive,.int .i64 t.rest,.int .i64 t.fixed,.int .i64 t.perMile,.int .i64 t.perTick,.int .i64 r.typ,.int .i64 r.start,.list r.rests_c (r.rests.map eB),.list r.visits_c (r.visits.map ZR),.list c (sp.map BA)]
@[go_sem] theorem fP (x:Inst) (t:Typ) (r:Rte) (c:Bool) (sp:List Stp):K6 x t r c sp= .agg [.list x.net.places_c (x.net.places.map eS),.list x.net.arcs_c (x.net.arcs.map VD),.list x.types_c (x.types.map Q0),.list x.orders_c (x.orders.map Wr),.list x.apart_c (x.apart.map eP),.list x.before_c (x.before.map eP),.str t.name,.int .i64 t.count,.int .i64 t.src,.int .i64 t.dst,.list t.cap_c (t.cap.map eI),.int .i64 t.skills,.int .i64 t.prof,.int .i64 t.opn,.int .i64 t.cls,.int .i64 t.drive,.int .i64 t.rest,.int .i64 t.fixed,.int .i64 t.perMile,.int .i64 t.perTick,.int .i64 r.typ,.int .i64 r.start,.list r.rests_c (r.rests.map eB),.list r.visits_c (r.visits.map ZR),.list c (sp.map BA)]:=Eq.trans rfl rfl
def Ps (x:Inst) (t:Typ) (r:Rte):List V:= [.p (.list x.net.places_c (x.net.places.map eS)),.p (.list x.net.arcs_c (x.net.arcs.map VD)),.p (.list x.types_c (x.types.map Q0)),.p (.list x.orders_c (x.orders.map Wr)),.p (.list x.apart_c (x.apart.map eP)),.p (.list x.before_c (x.before.map eP)),.p (.str t.name),.p (.int .i64 t.count),.p (.int .i64 t.src),.p (.int .i64 t.dst),.p (.list t.cap_c (t.cap.map eI)),.p (.int .i64 t.skills),.p (.int .i64 t.prof),.p (.int .i64 t.opn),.p (.int .i64 t.cls),.p (.int .i64 t.drive),.p (.int .i64 t.rest),.p (.int .i64 t.fixed),.p (.int .i64 t.perMile),.p (.int .i64 t.perTick),.p (.int .i64 r.typ),.p (.int .i64 r.start),.p (.list r.rests_c (r.rests.map eB)),.p (.list r.visits_c (r.visits.map ZR))]
def Z5 (x:Inst) (t:Typ) (r:Rte) (c:Bool) (sp:List Stp):AM.Obj:= .cells [.p (.list x.net.places_c (x.net.places.map eS)),.p (.list x.net.arcs_c (x.net.arcs.map VD)),.p (.list x.types_c (x.types.map Q0)),.p (.list x.orders_c (x.orders.map Wr)),.p (.list x.apart_c (x.apart.map eP)),.p (.list x.before_c (x.before.map eP)),.p (.str t.name),.p (.int .i64 t.count),.p (.int .i64 t.src),.p (.int .i64 t.dst),.p (.list t.cap_c (t.cap.map eI)),.p (.int .i64 t.skills),.p (.int .i64 t.prof),.p (.int .i64 t.opn),.p (.int .i64 t.cls),.p (.int .i64 t.drive),.p (.int .i64 t.rest),.p (.int .i64 t.fixed),.p (.int .i64 t.perMile),.p (.int .i64 t.perTick),.p (.int .i64 r.typ),.p (.int .i64 r.start),.p (.list r.rests_c (r.rests.map eB)),.p (.list r.visits_c (r.visits.map ZR)),.p (.list c (sp.map BA))]
def Pz : AM.Obj:= .cells [.p (.list true []),.p (.list true []),.p (.list true []),.p (.list true []),.p (.list true []),.p (.list true []),.p (.str []),.p (.int .i64 0),.p (.int .i64 0),.p (.int .i64 0),.p (.list true []),.p (.int .i64 0),.p (.int .i64 0),.p (.int .i64 0),.p (.int .i64 0),.p (.int .i64 0),.p (.int .i64 0),.p (.int .i64 0),.p (.int .i64 0),.p (.int .i64 0),.p (.int .i64 0),.p (.int .i64 0),.p (.list true []),.p (.list true []),.p (.list true [])]
def Y8 (L:Lab):PV:= .agg [.int .i64 L.ready,.int .i64 L.since,.bool L.she.rest,.int .i64 L.she.dep,.list L.she.times_c (L.she.times.map eTim),.int .i64 L.she.fin,.int .i64 L.she.miles]
@[go_sem] theorem fG (L:Lab):Y8 L= .agg [.int .i64 L.ready,.int .i64 L.since,.bool L.she.rest,.int .i64 L.she.dep,.list L.she.times_c (L.she.times.map eTim),.int .i64 L.she.fin,.int .i64 L.she.miles]:=Eq.trans rfl rfl
@[go_sem] theorem P2 (l:List Lab):U4 7 (l.map Y8)=true:=Vw (f:=Y8) (S:=7) (fun _=>rfl) l
def Xr (L:Lab):AM.Obj:= .cells [.p (.int .i64 L.ready),.p (.int .i64 L.since),.p (.bool L.she.rest),.p (.int .i64 L.she.dep),.p (.list L.she.times_c (L.she.times.map eTim)),.p (.int .i64 L.she.fin),.p (.int .i64 L.she.miles)]
theorem Fq (l:List Tim) (c:Bool) (hl:l.length<=1048576):ACalls Tryz.prog 235 [.p (.list c (l.map eTim))] [] fun x H'=>x= .sl 0 0 l.length l.length/\H'= [.elems 4 (l.map eTim)]:=by
 suffices hh:ACalls Tryz.prog 235 [.p (.list c (l.map eTim))] [] fun x H'=> ∃m:List Tim,m=l/\x= .sl 0 0 m.length m.length/\H'= [.elems 4 (m.map eTim)] by
  grind
 refine Zd [1] Tryz.func235 rfl Oy ?_;simp (disch:=omega) only [Tryz.f235,go_sem,seval];refine ZW (ZW (Vz 1 rfl rfl ?_));refine ⟨_,IX (e:=28) rfl Tryz.underlying144 rfl (fun _=>rfl),?_⟩;rintro _ ⟨b,rfl,hb⟩;refine Zi ?_;refine Ze [] _ _ _ _ ?_
 cases b with
 | true =>
  have hn:l= []:=by simp_all
  subst hn;refine Zi ?_;exact ⟨_,_,Weak.ofNil 0 4 rfl Zb (wk),[],rfl,rfl,rfl⟩
 | false =>
  refine Zi ?_;refine Ze [] _ _ _ _ (Zi ?_);exact ⟨.sl 0 0 l.length l.length,[.elems 4 (l.map eTim)],wk,l,rfl,rfl,rfl⟩
theorem Jh (x:Inst) (t:Typ) (r:Rte) (c:Bool) (sp:List Stp):PC 192 [.p (K6 x t r c sp)] (Y8 (Xd t r.start)):=by
 refine Zd [] Tryz.func192 rfl N7 ?_;simp (disch:=omega) only [Tryz.f192,go_sem,seval];exact we (by simp (disch:=omega) only [Xd,zShe,List.map_nil,go_sem,seval])
theorem GR (x:Inst) (t:Typ) (r:Rte) (c:Bool) (sp:List Stp) (k:Nat) (hk:k<=sp.length) (hl:sp.length<=1048576):PC 237 [.p (K6 x t r c sp),.p (.int .i64 (k:Nat))] (.int .i64 (Ep t sp k)):=by
 refine Zc Tryz.func237 rfl OA ?_;simp (disch:=omega) only [Tryz.f237,go_sem,seval];refine cD ?_ ?_<;>intro h<;>simp (disch:=omega) only [Sh.out h,go_sem,seval,↓reduceIte]
 ·simp_all [Ep]
 simp_all [Ep]
theorem O6 (x:Inst) (r:Rte) (hx:InstOk x) (hty:0<=r.typ/\r.typ<(x.types.length:Int)) (h0:ZZ x r.visits=0) (hs:0<=r.start/\r.start<=4096) :
  PT 191 [.p (XQ x),.p (X1 r)] [.p (K6 x (ZP x r) r false (Xy x r.visits)),.p (.bool true)]:=by
 have hd:=VJ hx;have hsq:=Wg h0;have hol:=hd.ord;have htl:=hd.typ;have hvl:=hsq.len hol
 have e1: ¬r.typ<0:=Za
 have e2: ¬(x.types.length:Int)<=r.typ:=Za
 have e3: ¬r.start<0:=Za
 have e4: ¬ 4096<r.start:=Za
 have e5: ¬ 20<(r.visits.length:Int):=Za
 refine Zd [12] Tryz.func191 rfl Ga ?_;simp (disch:=omega) only [Tryz.f191,e1,e2,e3,e4,e5,go_sem,seval];refine Vo [9] 10 mixed Zh Zh Zh Zb (Zi ?_);refine Xn 9 _ _ Zh (by refine Zi ?_;exact ⟨rfl,rfl⟩) (W3 ?_);refine Zi ?_
 refine Zz [12] [2,4,6,49,50] (fun q:Nat×List Stp=> [(51,.p (.int .i64 q.1))])
  (fun q=> [Zj x,ZE r,Pz,.cells (Ps x (ZP x r) r++ [.sl 4 0 q.2.length q.2.length]),.elems 4 (q.2.map BA)])
  (fun q=>q.1<=r.visits.length/\q.2=(Xy x r.visits).take q.1) (fun q=>r.visits.length-q.1) (0,[]) Zb ((Weak.nilC (o:=3) (j:=24) 4 rfl rfl Zb).trans (Weak.mk ?_)) ?_
 ·simp (disch:=omega) only [Zj,ZE,Pz,Ps,ZP,List.map_nil,List.length_nil,List.set_cons_succ,List.set_cons_zero,List.cons_append,List.nil_append,go_sem,seval]
 ·rintro ⟨k,o⟩ ⟨hk,ho⟩;simp only at hk ho
  have hol2:o.length=k:=by grind [XV]
  simp (disch:=omega) only [Zj,ZE,Pz,Ps,go_sem,seval];refine cD ?_ ?_<;>intro h1<;>simp (disch:=omega) only [Sh.out h1,go_sem,seval,↓reduceIte]
  ·have hk2:k<r.visits.length:=Za
   have hvis:=hsq.vis (Xb hk2);simp only [Lz,Bool.and_eq_true,decide_eq_true_eq] at hvis
   have hsn:o++ [Yy x (nth r.visits k)]=(Xy x r.visits).take (k+1):=by
    rw [ho,List.take_succ_eq_append_getElem (by grind [XV]),<- Zg,Ck hk2]
   have hnp: ¬(Yy x (nth r.visits k)).place<0:=Za
   refine XF (I7 x (nth r.visits k) Za hvis.1 hvis.2) ?_;simp (disch:=omega) only [hnp,go_sem,seval];exact ⟨(k+1,o++ [Yy x (nth r.visits k)]),⟨Za,hsn⟩,Za,Weak.mk (by simp (disch:=omega) only [List.length_append,List.length_cons,List.length_nil,List.map_append,List.map_cons,List.map_nil,go_sem,seval])⟩
  ·have hkl:k=r.visits.length:=Za
   subst hkl
   have hso:o=Xy x r.visits:=by grind [XV]
   subst hso;refine Zs (Weak.fz (o:=4) (by rfl)) (Ze [] _ _ _ _ (V1 ?_));exact we
def AV (rd sn:Int) (m:She):AM.Obj:= .cells [.p (.int .i64 rd),.p (.int .i64 sn),.p (.bool m.rest),.p (.int .i64 m.dep),.sl 4 0 m.times.length m.times.length,.p (.int .i64 m.fin),.p (.int .i64 m.miles)]
theorem BD {P:Program} {H:List AM.Obj} {f ars} {a b d:PV} {B:V->Prop} {t} (h:ACalls P f ars [] fun x H'=>x= .tup [.p a,.p b,.p d]/\H'= []) (k:B (.tup [.p a,.p b,.p d])) (ha:Zx 0 ars=true:=by rfl) :
  It (fun y=>ACalls P f ars H (Zp (Zp (fun x H'=>x=y/\H'=H) ⟨⟩) ⟨⟩)) (Zp B t) :=
 ⟨.tup [.p a,.p b,.p d],(h.behind ha H).mono fun x H' hq=>by
  obtain ⟨y,H1,⟨rfl,rfl⟩,rfl,rfl⟩:=hq
  simp [Bf,Wv,Zp],k⟩
theorem OV (x:Inst) (t:Typ) (r:Rte) (c:Bool) (sp:List Stp) (hok:TrpOk x t sp) (k:Nat) (hk:k<=sp.length) (hs1:0<sp.length) (L:Lab) (hL:LabR k L) (hlen:L.she.times.length=k) (hclip:0<k->L.she.times_c=false) (b:Bool) :
  PT 222 [.p (K6 x t r c sp),.p (Y8 L),.p (.int .i64 (k:Nat)),.p (.bool b)] [.p (Y8 (XG x t sp k L b).1),.p (.int .i64 (XG x t sp k L b).2)]:=by
 have hd:=Qf hok hL b;have hsn:=AW hL b;have hg:=CW hok hL b;have hmi:=hL.mil;have hrd:=hL.rdy;have hsnL:=hL.snc;have hsl:=hok.len;have hrst:=hok.rst;unfold XG;have hmm:= @UG k (Z6 t L b) b L.she;have hmf:= @Ec k (Z6 t L b) b L.she;have hml:= @Uk k (Z6 t L b) b L.she;refine Zd [2,7,14,31] Tryz.func222 rfl Oq ?_;simp (disch:=omega) only [Tryz.f222,go_sem,seval];refine Yw (Zi ?_);refine X0 [2,3,4,5,8] (fun _:Unit=> [(10,.p (.int .i64 (Z6 t L b))),(11,.p (.int .i64 (Vc L b)))]) (fun _=> [Z5 x t r c sp,Xr L,Xr Xz]) (fun _=>True) ?_ ?_
 ·refine Zi ?_;refine XL ?_ ?_<;>intro h
  ·subst h;exact ⟨(),Weak.mk (by simp (disch:=omega) only [Z5,Xr,Xz,zShe,Z6,Vc,List.map_nil,go_sem,seval,↓reduceIte])⟩
  ·subst h;exact ⟨(),Weak.mk (by simp (disch:=omega) only [Z5,Xr,Xz,zShe,Z6,Vc,List.map_nil,go_sem,seval,↓reduceIte])⟩
 ·intro _ _;refine Ze [7,14,31] _ _ _ _ ?_;simp (disch:=omega) only [Z5,Xr,Xz,zShe,List.map_nil,go_sem,seval];refine (Fq L.she.times L.she.times_c Za).useF (Zi ?_)
  generalize hM:Xw k (Z6 t L b) b L.she=M at *
  refine X0 [2,4,8,10,11,12] (fun _:Unit=> []) (fun _=> [Z5 x t r c sp,Xr L,Xr Xz,AV 0 0 M,.elems 4 (M.times.map eTim)]) (fun _=>True) ?_ ?_
  ·refine Zi ?_;refine XL ?_ ?_<;>intro h
   ·have hk0:k=0:=Za
    subst hk0
    have e:M= { L.she with rest:=b,dep:=Z6 t L b } :=by rw [<- hM,Xw,if_pos rfl]
    rw [e];exact ⟨(),Weak.mk (by simp (disch:=omega) only [Z5,Xr,Xz,zShe,AV,List.map_nil,go_sem,seval])⟩
   ·have e1:((k:Int)-1).toNat=k-1:=Za
    have hk1:k-1<L.she.times.length:=Za
    have L5:(L.she.times.map eTim).set (k-1) (PV.agg [.int .i64 (nth L.she.times (k-1)).arr,.int .i64 (nth L.she.times (k-1)).beg,.int .i64 (nth L.she.times (k-1)).dep,.bool b])=(L.she.times.set (k-1) { nth L.she.times (k-1) with rest:=b }).map eTim:=by
     rw [List.map_set];rfl
    have hn1:nth (L.she.times.set (k-1) { nth L.she.times (k-1) with rest:=b }) (k-1)= { nth L.she.times (k-1) with rest:=b } :=by
     grind [Zg]
    have hl1:(L.she.times.set (k-1) { nth L.she.times (k-1) with rest:=b }).length=L.she.times.length:=Zb
    have hMt:M.times=(L.she.times.set (k-1) { nth L.she.times (k-1) with rest:=b }).set (k-1) { nth (L.she.times.set (k-1) { nth L.she.times (k-1) with rest:=b }) (k-1) with dep:=Z6 t L b } :=by
     rw [hn1,List.set_set,<- hM,Xw,if_neg Za];rfl
    have hM2:M.rest=L.she.rest/\M.dep=L.she.dep:=by rw [<- hM,Xw,if_neg Za];simp
    simp (disch:=first | omega | (simp only [List.length_cons,List.length_nil,List.length_append,List.length_map,List.length_take,List.length_drop]<;>omega)) only [e1,go_sem,seval,↓reduceIte];rw [L5]
    generalize L.she.times.set (k-1) { nth L.she.times (k-1) with rest:=b } =l1 at *
    simp (disch:=first | omega | (simp only [List.length_cons,List.length_nil,List.length_append,List.length_map,List.length_take,List.length_drop]<;>omega)) only [e1,hl1,eq_self,decide_true,go_sem,seval];refine ⟨(),Weak.mk ?_⟩;simp (disch:=omega) only [Z5,Xr,Xz,zShe,AV,List.map_nil,hM2.1,hM2.2,hmm,hmf,hml,go_sem,seval];rw [hMt,List.map_set]
    rfl
  ·intro _ _;refine Ze [14,31] _ _ _ _ ?_;simp (disch:=omega) only [Z5,Xr,Xz,zShe,AV,List.map_nil,go_sem,seval];refine X0 [2,4,8,10,11,12,13] (fun _:Unit=> [(14,.p (.int .i64 (Md t sp k)))]) (fun _=> [Z5 x t r c sp,Xr L,Xr Xz,AV 0 0 M,.elems 4 (M.times.map eTim)]) (fun _=>True) ?_ ?_
   ·refine Zi ?_;refine XL ?_ ?_<;>intro h
    ·have e:Md t sp k=(nth sp k).place:=by rw [Md,if_neg Za]
     exact ⟨(),Weak.mk (by simp (disch:=omega) only [Z5,Xr,Xz,zShe,AV,List.map_nil,e,go_sem,seval])⟩
    ·have e:Md t sp k=t.dst:=by rw [Md,if_pos Za]
     exact ⟨(),Weak.mk (by simp (disch:=omega) only [Z5,Xr,Xz,zShe,AV,List.map_nil,e,go_sem,seval])⟩
   ·intro _ _;refine Ze [31] _ _ _ _ ?_;simp (disch:=omega) only [Z5,Xr,Xz,zShe,AV,List.map_nil,go_sem,seval];refine Yw (Zi ?_);refine ZQ (GR x t r c sp k hk Za) (Zi ?_);refine BD (cH x.net t.prof (Ep t sp k) (Md t sp k) (Z6 t L b) hok.net Za) (Zi ?_);have hG:KC x.net t.prof (Ep t sp k) (Md t sp k) (Z6 t L b)=F1 x t sp k (Z6 t L b):=rfl;rw [hG];clear hG
    generalize F1 x t sp k (Z6 t L b)=g at *
    generalize Z6 t L b=d at *
    generalize Vc L b=s at *
    refine cD ?_ ?_<;>intro h1<;>simp (disch:=omega) only [Sh.out h1,go_sem,seval,↓reduceIte]
    ·have e:YM t sp k g d s M=(Xz,12):=by rw [YM,if_pos h1]
     rw [e];exact we (by simp (disch:=omega) only [Xz,zShe,List.map_nil,go_sem,seval])
    ·refine cD ?_ ?_<;>intro h2<;>simp (disch:=omega) only [Sh.out h2,go_sem,seval,↓reduceIte]
     ·refine cD ?_ ?_<;>intro h3<;>simp (disch:=omega) only [Sh.out h3,go_sem,seval,↓reduceIte]
      ·have e:YM t sp k g d s M=(Xz,15):=by rw [YM,if_neg h1,if_pos Za,if_pos h3]
       rw [e];exact we (by simp (disch:=omega) only [Xz,zShe,List.map_nil,go_sem,seval])
      ·refine Zs (Weak.fz (o:=4) (by rfl)) (Ze [] _ _ _ _ (V1 ?_));refine cD ?_ ?_<;>intro h4<;>simp (disch:=omega) only [Sh.out h4,go_sem,seval,↓reduceIte]
       ·have e:YM t sp k g d s M=(Xz,16):=by rw [YM,if_neg h1,if_pos Za,if_neg h3,if_pos h4]
        rw [e];exact we (by simp (disch:=omega) only [Xz,zShe,List.map_nil,go_sem,seval])
       ·have e:YM t sp k g d s M=(⟨g.1,s+g.1-d,{ M with fin:=g.1,miles:=M.miles+g.2.1 }⟩,0):=by rw [YM,if_neg h1,if_pos Za,if_neg h3,if_neg h4]
        have hMc:M.times_c=false:=by
         rw [<- hM,Xw,if_neg Za]
         grind
        rw [e];exact we (by simp (disch:=omega) only [hMc,go_sem,seval])
     ·have h2': ¬k=sp.length:=Za
      have hkl:k<sp.length:=Za
      have hstp:=hok.stp _ (Zq hkl);refine XF (Ia (nth sp k) g.1) ?_;unfold Bt
      by_cases h3:(nth sp k).cls<max g.1 (nth sp k).opn
      ·have e:YM t sp k g d s M=(Xz,14):=by simp_all [YM]
       rw [e,if_pos h3];refine Zi ?_;exact we (by simp (disch:=omega) only [Xz,zShe,List.map_nil,go_sem,seval])
      ·rw [if_neg h3];refine Zi ?_;refine Zs (Weak.fz (o:=4) (by rfl)) (Ze [] _ _ _ _ (V1 ?_));refine cD ?_ ?_<;>intro h4<;>simp (disch:=omega) only [Sh.out h4,go_sem,seval,↓reduceIte]
       ·have e:YM t sp k g d s M=(Xz,16):=by simp_all [YM]
        rw [e];exact we (by simp (disch:=omega) only [Xz,zShe,List.map_nil,go_sem,seval])
       ·have e:YM t sp k g d s M=(⟨max g.1 (nth sp k).opn+(nth sp k).serv,s+g.1-d,{ M with times_c:=false,times:=M.times++ [⟨g.1,max g.1 (nth sp k).opn,0,false⟩],miles:=M.miles+g.2.1 }⟩,0):=by simp_all [YM,if_neg]
        rw [e];exact we
theorem Eh {x t sp k L b} (hs:0<sp.length) (hc:0<k->L.she.times_c=false) (he:(XG x t sp k L b).2=0):(XG x t sp k L b).1.she.times_c=false:=by
 have hm:0<k->(Xw k (Z6 t L b) b L.she).times_c=false:=fun h=>by rw [Xw,if_neg Za];exact hc h
 unfold XG at he ⊢
 generalize F1 x t sp k (Z6 t L b)=g at *
 generalize Z6 t L b=d at *
 generalize Vc L b=s at *
 generalize Xw k d b L.she=m at *
 unfold YM at he ⊢
 grind
structure LabO (n k:Nat) (L:Lab):Prop where
 rng:LabR k L
 len:k<=n->L.she.times.length=k
 clip:0<k->L.she.times_c=false
theorem Jv {x t sp k L b} (hok:TrpOk x t sp) (hs:0<sp.length) (hk:k<=sp.length) (h:LabO sp.length k L) (he:(XG x t sp k L b).2=0):LabO sp.length (k+1) (XG x t sp k L b).1 :=
 ⟨C8 hok hk h.rng he,fun hk2=>Qy (h.len hk) he Za,fun _=>Eh hs h.clip he⟩
theorem Jw {x t sp} (hok:TrpOk x t sp) {st:Int} (hst:0<=st/\st<=4096):LabO sp.length 0 (Xd t st) :=
 ⟨⟨by have:=hok.opn;grind [Xd],by simp [Xd],by simp [Xd,zShe]⟩,fun _=>rfl,fun h=>Za⟩
theorem C7 (x:Inst) (t:Typ) (r:Rte) (c:Bool) (sp:List Stp) (hok:TrpOk x t sp) (k:Nat) (hk:k<=sp.length) (hs1:0<sp.length) (L:Lab) (hL:LabO sp.length k L) (b:Bool) :
  PT 222 [.p (K6 x t r c sp),.p (Y8 L),.p (.int .i64 (k:Nat)),.p (.bool b)] [.p (Y8 (XG x t sp k L b).1),.p (.int .i64 (XG x t sp k L b).2)] :=
 OV x t r c sp hok k hk hs1 L hL.rng (hL.len hk) hL.clip b
theorem cP (x:Inst) (t:Typ) (r:Rte) (c:Bool) (sp:List Stp) (hok:TrpOk x t sp) (hs1:0<sp.length) (hst:0<=r.start/\r.start<=4096) (bs:List Bool) (d:Bool) (hb:bs.length=sp.length+1) :
  PT 194 [.p (K6 x t r c sp),.p (.list d (bs.map eB))] [.p (D0 (Xp x t sp 0 (Xd t r.start) bs).1.she),.p (.int .i64 (Xp x t sp 0 (Xd t r.start) bs).2)]:=by
 have hsl:=hok.len;refine Zd [] Tryz.func194 rfl N9 ?_;simp (disch:=omega) only [Tryz.f194,go_sem,seval];refine (Jh x t r c sp).use (Zi ?_)
 refine Zm [2,4,6,13,14] (fun q:Nat×Lab=> [(15,.p (.int .i64 q.1))]) (fun q=> [Z5 x t r c sp,.cells [.p (.bool false),.p (.int .i64 0),.p (.list true []),.p (.int .i64 0),.p (.int .i64 0)],Xr q.2])
  (fun q=>q.1<=bs.length/\Xp x t sp 0 (Xd t r.start) bs=Xp x t sp q.1 q.2 (bs.drop q.1)/\LabO sp.length q.1 q.2) (fun q=>bs.length-q.1) (0,Xd t r.start) ⟨Zb,Zb,Jw hok hst⟩ (Weak.mk ?_) ?_
 ·simp (disch:=omega) only [Z5,Xr,go_sem,seval]
 ·rintro ⟨k,L⟩ ⟨hk,hrun,hL⟩;simp only at hk hrun hL;simp (disch:=omega) only [Z5,Xr,go_sem,seval];refine cD ?_ ?_<;>intro h1<;>simp (disch:=omega) only [Sh.out h1,go_sem,seval,↓reduceIte]
  ·have hk2:k<bs.length:=Za
   have hdrop:bs.drop k=nth bs k::bs.drop (k+1):=by rw [List.drop_eq_getElem_cons hk2,Zg hk2]
   rw [hdrop,Xp] at hrun;have cn:=C7 x t r c sp hok k Za hs1 L hL (nth bs k);have hL2:=Jv (x:=x) (t:=t) (b:=nth bs k) hok hs1 Za hL
   generalize XG x t sp k L (nth bs k)=N at *
   refine XF cn (Zi ?_);refine XL ?_ ?_<;>intro h2
   ·rw [hrun,if_neg h2];exact we (by simp (disch:=omega) only [Xz,zShe,List.map_nil,go_sem,seval])
   ·rw [if_pos Za] at hrun;exact ⟨(k+1,N.1),⟨Za,hrun,hL2 Za⟩,Za,wk⟩
  ·have hkl:k=bs.length:=Za
   subst hkl;rw [List.drop_length,Xp] at hrun;rw [hrun];exact we
theorem H9 (l m:Lab):PC 225 [.p (Y8 l),.p (Y8 m)] (.bool (Zu l m)):=by
 refine Zc Tryz.func225 rfl Ov ?_;simp (disch:=omega) only [Tryz.f225,go_sem,seval];refine gT ?_ ?_<;>intro h<;>simp (disch:=omega) only [Sh.out h,go_sem,seval,↓reduceIte]
 ·simp [Zu,h]
 ·simp [Zu,h]
def gH (x:Inst) (t:Typ) (r:Rte) (c:Bool) (sp:List Stp) (o:List Lab) (f z:Lab):List AM.Obj:= [Z5 x t r c sp,.dead,.elems 7 (o.map Y8),Xr f,Xr z]
theorem IA (x:Inst) (t:Typ) (r:Rte) (c:Bool) (sp:List Stp) (o:List Lab) (f z m:Lab):ACalls Tryz.prog 224 [.p (Y8 m),.ptr 4 0] (gH x t r c sp o f z) fun y H'=>y= .p (.bool (Zu m z))/\H'=gH x t r c sp o f z:=by
 refine Zd [] Tryz.func224 rfl Ou ?_;simp (disch:=omega) only [Tryz.f224,gH,Z5,Xr,go_sem,seval];refine (H9 m z).use (Zi ?_);exact we
theorem BK (x:Inst) (t:Typ) (r:Rte) (c:Bool) (sp:List Stp) (o:List Lab) (f z:Lab) (hl:o.length<=2097152) :
  ACalls Tryz.prog 239 [.sl 2 0 o.length o.length,.fn (.func 224) [] [.ptr 4 0]] (gH x t r c sp o f z) fun y H'=>y= .p (.int .i64 (L4 (fun m=>Zu m z) o))/\H'=gH x t r c sp o f z:=by
 refine Zd [] Tryz.func239 rfl OC ?_;simp (disch:=omega) only [Tryz.f239,gH,Z5,Xr,go_sem,seval];refine Zm [0,1,7] (fun k:Nat=> [(8,.p (.int .i64 k))]) (fun _=>gH x t r c sp o f z) (fun k=>k<=o.length/\ ∀j,j<k->Zu (nth o j) z=false) (fun k=>o.length-k) 0 Zb (Weak.mk ?_) ?_
 ·simp (disch:=omega) only [gH,Z5,Xr,go_sem,seval,↓reduceIte]
 ·rintro k ⟨hk,hno⟩;simp (disch:=omega) only [gH,Z5,Xr,go_sem,seval];refine cD ?_ ?_<;>intro h<;>simp (disch:=omega) only [Sh.out h,go_sem,seval,↓reduceIte]
  ·have hk2:k<o.length:=Za
   have hg:=IA x t r c sp o f z (nth o k);simp (disch:=first | omega | (simp only [List.length_cons,List.length_nil,List.length_append,List.length_map,List.length_take,List.length_drop]<;>omega)) only [Yh hk2,hk2,go_sem,seval,↓reduceIte];simp (disch:=omega) only [gH,Z5,Xr,go_sem,seval] at hg;refine hg.useH (Zi ?_);refine cD ?_ ?_<;>intro h2<;>simp (disch:=omega) only [Sh.out h2,go_sem,seval,↓reduceIte]
   ·rw [FR (f:=fun m=>Zu m z) hk2 h2 hno];exact we
   ·exact ⟨k+1,⟨Za,Zn.2 ⟨hno,Za⟩⟩,Za,wk⟩
  ·have hkl:k=o.length:=Za
   subst hkl;rw [FT hno];exact we
theorem QZ (x:Inst) (t:Typ) (r:Rte) (c:Bool) (sp:List Stp) (o:List Lab) (f z:Lab) (hl:o.length<=2097152) :
  ACalls Tryz.prog 223 [.sl 2 0 o.length o.length,.fn (.func 224) [] [.ptr 4 0]] (gH x t r c sp o f z) fun y H'=>y= .p (.bool (o.any fun m=>Zu m z))/\H'=gH x t r c sp o f z:=by
 refine Zd [] Tryz.func223 rfl Ot ?_;simp (disch:=omega) only [Tryz.f223,go_sem,seval];refine (BK x t r c sp o f z hl).useH (Zi ?_);rw [FS];exact we (by simp (disch:=omega) only [gH,Z5,Xr,go_sem,seval])
def DU (x:Inst) (t:Typ) (sp:List Stp) (r:List Bool) (k:Nat) (f:Lab) (bs:List Bool) (l:List Lab):List Lab:=bs.filterMap (ZY x t sp k f)++XB (ZY x t sp) (Yd r) k l
theorem No (x:Inst) (t:Typ) (r:Rte) (c:Bool) (sp:List Stp) (hok:TrpOk x t sp) (hs1:0<sp.length) (k:Nat) (hk:k<=sp.length) (hrl:r.rests.length<=1048576) (l:List Lab) (d:Bool) (hl:l.length<=1048576) (hL: ∀L∈l,LabO sp.length k L) :
  PC 193 [.p (K6 x t r c sp),.p (.list d (l.map Y8)),.p (.int .i64 (k:Nat))] (.list false ((ZM Zu [] (XB (ZY x t sp) (Yd r.rests) k l)).map Y8)):=by
 have hsl:=hok.len;refine Zd [2,16] Tryz.func193 rfl N8 ?_;simp (disch:=omega) only [Tryz.f193,go_sem,seval];refine Zs (Weak.fz (o:=1) (by rfl)) (V1 ?_);refine X0 [1,2,3] (fun cb:Bool=> [(7,.p (.list cb ((Yd r.rests k).map eB)))]) (fun _=> [Z5 x t r c sp,.dead]) (fun _=>True) ?_ ?_
 ·refine Zi ?_;refine XL ?_ ?_<;>intro h
  ·have hk2:k<r.rests.length:=Za
   have e:Yd r.rests k=(r.rests.take (k+1)).drop k:=by
    grind [Yd,List.take_succ_eq_append_getElem]
   exact ⟨r.rests_c&&decide ((k:Int)+1=(r.rests.length:Int)),Weak.mk (by simp (disch:=omega) only [Z5,e,go_sem,seval])⟩
  ·have e:Yd r.rests k= [false,true]:=by grind [Yd]
   exact ⟨false,Weak.mk (by simp (disch:=omega) only [Z5,e,List.map_cons,List.map_nil,go_sem,seval])⟩
 ·intro cb _
  have hch:(Yd r.rests k).length<=2:=by grind [Yd]
  refine Ze [16] _ _ _ _ ?_;simp (disch:=omega) only [Z5,go_sem,seval]
  refine Zz [16] [2,3,7,29,30] (fun q:Nat×List Lab=> [(8,.sl 2 0 q.2.length q.2.length),(31,.p (.int .i64 q.1))]) (fun q=> [Z5 x t r c sp,.dead,.elems 7 (q.2.map Y8)])
   (fun q=>q.1<=l.length/\ZM Zu [] (XB (ZY x t sp) (Yd r.rests) k l)=ZM Zu q.2 (XB (ZY x t sp) (Yd r.rests) k (l.drop q.1))/\q.2.length<=2*q.1) (fun q=>l.length-q.1) (0,[]) Zb (Weak.ofNil 8 7 rfl Zb (Weak.mk ?_)) ?_
  ·simp (disch:=omega) only [Z5,List.map_nil,List.length_nil,go_sem,seval]
  ·rintro ⟨i,o⟩ ⟨hi,hpr,hol⟩;simp only at hi hpr hol;simp (disch:=omega) only [Z5,go_sem,seval];refine cD ?_ ?_<;>intro h1<;>simp (disch:=omega) only [Sh.out h1,go_sem,seval,↓reduceIte]
   ·have hi2:i<l.length:=Za
    have hLi:=hL _ (Zq hi2)
    have hdrop:l.drop i=nth l i::l.drop (i+1):=by rw [List.drop_eq_getElem_cons hi2,Zg hi2]
    rw [hdrop] at hpr;have hpr:ZM Zu [] (XB (ZY x t sp) (Yd r.rests) k l)=ZM Zu o (DU x t sp r.rests k (nth l i) ((Yd r.rests k).drop 0) (l.drop (i+1))):=hpr
    refine Zm [2,3,7,10,29,30,31,35,36] (fun q:Nat×List Lab=> [(8,.sl 2 0 q.2.length q.2.length),(37,.p (.int .i64 q.1))]) (fun q=> [Z5 x t r c sp,.dead,.elems 7 (q.2.map Y8),Xr (nth l i)])
     (fun q=>q.1<=(Yd r.rests k).length/\ZM Zu [] (XB (ZY x t sp) (Yd r.rests) k l)=ZM Zu q.2 (DU x t sp r.rests k (nth l i) ((Yd r.rests k).drop q.1) (l.drop (i+1)))/\q.2.length<=2*i+q.1) (fun q=>(Yd r.rests k).length-q.1) (0,o) ⟨Zb,hpr,hol⟩ (Weak.mk ?_) ?_
    ·simp (disch:=omega) only [Z5,Xr,go_sem,seval]
    ·clear hpr hol;rintro ⟨j,o⟩ ⟨hj,hpr,hol⟩;simp only at hj hpr hol;simp (disch:=omega) only [Z5,Xr,go_sem,seval];refine XL ?_ ?_<;>intro h2
     ·have hj2:j<(Yd r.rests k).length:=Za
      have hd2:(Yd r.rests k).drop j=nth (Yd r.rests k) j::(Yd r.rests k).drop (j+1):=by rw [List.drop_eq_getElem_cons hj2,Zg hj2]
      have cn:=C7 x t r c sp hok k hk hs1 (nth l i) hLi (nth (Yd r.rests k) j);have ho2:ZY x t sp k (nth l i) (nth (Yd r.rests k) j)=if (XG x t sp k (nth l i) (nth (Yd r.rests k) j)).2=0 then some (XG x t sp k (nth l i) (nth (Yd r.rests k) j)).1 else none:=rfl;rw [hd2,DU,List.filterMap_cons,ho2] at hpr
      generalize XG x t sp k (nth l i) (nth (Yd r.rests k) j)=N at *
      refine XF cn (Zi ?_);refine TK ?_ ?_<;>intro h3
      ·have hcl:=QZ x t r c sp o (nth l i) N.1 Za;simp (disch:=omega) only [gH,Z5,Xr,go_sem,seval] at hcl;refine hcl.useH (Zi ?_);rw [if_pos h3] at hpr;have hpr:ZM Zu [] (XB (ZY x t sp) (Yd r.rests) k l)=if (o.any fun m=>Zu m N.1)=true then ZM Zu o (DU x t sp r.rests k (nth l i) ((Yd r.rests k).drop (j+1)) (l.drop (i+1))) else ZM Zu (o++ [N.1]) (DU x t sp r.rests k (nth l i) ((Yd r.rests k).drop (j+1)) (l.drop (i+1))):=hpr;refine XL ?_ ?_<;>intro h4
       ·rw [if_neg (by grind)] at hpr;exact ⟨(j+1,o++ [N.1]),⟨Za,hpr,by simp;omega⟩,Za,Weak.mk (by simp (disch:=omega) only [List.length_append,List.length_cons,List.length_nil,List.map_append,List.map_cons,List.map_nil,go_sem,seval])⟩
       ·rw [if_pos (by grind)] at hpr;exact ⟨(j+1,o),⟨Za,hpr,by grind⟩,Za,wk⟩
      ·rw [if_neg h3] at hpr;exact ⟨(j+1,o),⟨Za,hpr,by grind⟩,Za,wk⟩
     ·have hjl:j=(Yd r.rests k).length:=Za
      subst hjl;rw [List.drop_length,DU,List.filterMap_nil,List.nil_append] at hpr;exact ⟨(i+1,o),⟨Za,hpr,by grind⟩,Za,wk⟩
   ·have hil:i=l.length:=Za
    subst hil;have e:XB (ZY x t sp) (Yd r.rests) k []= []:=rfl;rw [List.drop_length,e,ZM] at hpr;rw [hpr];refine Zs (Weak.fz (o:=2) (by rfl)) (Ze [] _ _ _ _ (V1 ?_));exact we
def Ir : PV:= .agg [.list true [],.list true [],.list true [],.list true [],.list true [],.list true [],.str [],.int .i64 0,.int .i64 0,.int .i64 0,.list true [],.int .i64 0,.int .i64 0,.int .i64 0,.int .i64 0,.int .i64 0,.int .i64 0,.int .i64 0,.int .i64 0,.int .i64 0,.int .i64 0,.int .i64 0,.list true [],.list true [],.list true []]
theorem La (x:Inst) (r:Rte) (hty:0<=r.typ/\r.typ<(x.types.length:Int)) (htl:x.types.length<=1048576) (hvl:r.visits.length<=20) (hs: ¬(0<=r.start/\r.start<=4096)) :
  PT 191 [.p (XQ x),.p (X1 r)] [.p Ir,.p (.bool false)]:=by
 have e1: ¬r.typ<0:=Za
 have e2: ¬(x.types.length:Int)<=r.typ:=Za
 refine Zd [] Tryz.func191 rfl Ga ?_;simp (disch:=omega) only [Tryz.f191,e1,e2,go_sem,seval];refine gF ?_ ?_<;>intro h1<;>simp (disch:=omega) only [Sh.out h1,go_sem,seval,↓reduceIte]
 ·exact we (by simp (disch:=omega) only [Ir,go_sem,seval])
 ·refine gF ?_ ?_<;>intro h2<;>simp (disch:=omega) only [Sh.out h2,go_sem,seval,↓reduceIte]
  ·exact we (by simp (disch:=omega) only [Ir,go_sem,seval])
  ·omega
theorem AI {x t sp} : ∀(bs:List Bool) (k:Nat) (L:Lab),¬(Xp x t sp k L bs).2=0->(Xp x t sp k L bs).1=Xz
 | [],k,L,h=>by simp [Xp] at h
 | b::bs,k,L,h=>by
  rw [Xp] at h ⊢
  split
  ·rename_i c;rw [if_pos c] at h;exact AI bs (k+1) _ h
  ·rfl
theorem D4 (n:Nat):List.replicate n false∈Xh (List.replicate n false):=by
 rw [Vp];simp
theorem FN {l:List Lab} (h:Yz XT none l=none):l= []:=by
 cases l with
 | nil=>rfl
 | cons a l =>
  obtain ⟨z,hz,_⟩:=WG (fin:=XT) l a;have:Yz XT none (a::l)=Yz XT (some a) l:=rfl
  grind
theorem DS {x t sp} {st:Int} {r:List Bool} (h:Yz XT none ((YP r (sp.length+1)).filterMap (Vs (ZY x t sp) 0 (Xd t st)))=none): ¬(Xp x t sp 0 (Xd t st) (Va r (sp.length+1))).2=0:=fun h0=>by
 have h1:=FN h;have h2:Va r (sp.length+1)∈YP r (sp.length+1):=List.mem_map.2 ⟨_,D4 _,rfl⟩
 simp_all [WS]
theorem Bu {x t sp} {st:Int} {r:List Bool} (hr:r.length<=sp.length+1) (h:Yz XT none (Wn Zu (ZY x t sp) (Yd r) (sp.length+1) 0 [Xd t st])=none): ¬(Xp x t sp 0 (Xd t st) (Va r (sp.length+1))).2=0 :=
 DS (by rw [Jx,XO,Jp r _ hr] at h;exact h)
def YS (x:Inst) (r:Rte):She×Int:=if 0<=r.start/\r.start<=4096/\r.rests.length<=r.visits.length+1 then XJ x r else (zShe,2)
theorem Fk {x t sp} {ch:Nat->List Bool} {k:Nat} {l:List Lab} (hok:TrpOk x t sp) (hs:0<sp.length) (hk:k<=sp.length) (h: ∀L∈l,LabO sp.length k L): ∀L∈ZM Zu [] (XB (ZY x t sp) ch k l),LabO sp.length (k+1) L:=fun L hL=>by
 have h1:=W5 Zu _ _ L hL;rw [List.nil_append] at h1;obtain ⟨a,ha,hb⟩:=List.mem_flatMap.1 h1
 grind [ZY,Jv]
theorem Un : ∀(c out:List Lab),(ZM Zu out c).length<=out.length+c.length
 | [],out=>by simp [ZM]
 | x::c,out=>by
  rw [ZM]
  split
  ·have:=Un c out;simp;omega
  ·have:=Un c (out++ [x]);simp at this ⊢;omega
theorem Ji {x t sp} {r:List Bool} {k:Nat} : ∀l:List Lab,(XB (ZY x t sp) (Yd r) k l).length<=2*l.length
 | []=>by simp [XB]
 | a::l=>by
  have ih:=Ji (x:=x) (t:=t) (sp:=sp) (r:=r) (k:=k) l;have h1:(XB (ZY x t sp) (Yd r) k (a::l))=(Yd r k).filterMap (ZY x t sp k a)++XB (ZY x t sp) (Yd r) k l:=rfl
  grind [Yd]
theorem I2 (x:Inst) (r:Rte) (hx:InstOk x) (hl:r.visits.length<=1048576) (hrl:r.rests.length<=1048576) (hty:0<=r.typ/\r.typ<(x.types.length:Int)) (h0:ZZ x r.visits=0) :
  PT 156 [.p (XQ x),.p (X1 r)] [.p (D0 (YS x r).1),.p (.int .i64 (YS x r).2)]:=by
 have hd:=VJ hx;have hsq:=Wg h0;have hol:=hd.ord;have htl:=hd.typ;have hvl:=hsq.len hol;have hok:=A4 hx hty hsq;have hsl:(Xy x r.visits).length=r.visits.length:=XV
 have hs1:0<(Xy x r.visits).length:=by
  rw [hsl];have:=hsq.ne
  grind
 refine Zd [6,13,14] Tryz.func156 rfl NM ?_;simp (disch:=omega) only [Tryz.f156,go_sem,seval]
 by_cases hs:0<=r.start/\r.start<=4096
 ·refine XF (O6 x r hx hty h0 hs) (Zi ?_);refine cD ?_ ?_<;>intro h1<;>simp (disch:=omega) only [Sh.out h1,go_sem,seval,↓reduceIte]
  ·have e:YS x r=(zShe,2):=by rw [YS,if_neg Za]
   rw [e];exact we (by simp (disch:=omega) only [zShe,List.map_nil,go_sem,seval])
  ·have hrs:r.rests.length<=r.visits.length+1:=Za
   have e:YS x r=XJ x r:=by simp_all [YS]
   have hbn:= @Bu x (ZP x r) (Xy x r.visits) r.start r.rests Za;rw [e,XJ,J7 Za];refine (Jh x (ZP x r) r false (Xy x r.visits)).use (Zi ?_)
   generalize hT:ZP x r=t at *
   generalize hS:Xy x r.visits=sp at *
   refine Zs (Weak.fz (o:=4) (by rfl)) ?_;refine Ze [13,14] _ _ _ _ (Zi ?_)
   refine Zz [13,14] [3,4,6,8,38] (fun q:Nat×List Lab=> [(9,.p (.list false (q.2.map Y8))),(39,.p (.int .i64 q.1))]) (fun _=> [Zj x,ZE r,.cells [.p (.bool false),.p (.int .i64 0),.p (.list true []),.p (.int .i64 0),.p (.int .i64 0)],Z5 x t r false sp,.dead])
    (fun q=>q.1<=sp.length+1/\Wn Zu (ZY x t sp) (Yd r.rests) (sp.length+1) 0 [Xd t r.start]=Wn Zu (ZY x t sp) (Yd r.rests) (sp.length+1-q.1) q.1 q.2/\(∀L∈q.2,LabO sp.length q.1 L)/\q.2.length<=2^q.1) (fun q=>sp.length+1-q.1) (0,[Xd t r.start]) ⟨Zb,Zb,fun L hL=>by grind [Jw],Zb⟩ (Weak.mk ?_) ?_
   ·simp (disch:=omega) only [Zj,ZE,Z5,List.map_cons,List.map_nil,List.set_cons_succ,List.set_cons_zero,go_sem,seval]
   ·rintro ⟨k,l⟩ ⟨hk,hit,hlo,hll⟩;simp only at hk hit hlo hll;simp (disch:=omega) only [Zj,ZE,Z5,go_sem,seval];refine cD ?_ ?_<;>intro h2<;>simp (disch:=omega) only [Sh.out h2,go_sem,seval,↓reduceIte]
    ·have hk2:k<=sp.length:=Za
     have hp20:2^k<=2^20:=Nat.pow_le_pow_right Za Za;refine (No x t r false sp hok hs1 k hk2 hrl l false Za hlo).use (Zi ?_)
     have hn:Wn Zu (ZY x t sp) (Yd r.rests) (sp.length+1-k) k l=Wn Zu (ZY x t sp) (Yd r.rests) (sp.length+1-(k+1)) (k+1) (ZM Zu [] (XB (ZY x t sp) (Yd r.rests) k l)):=by
      have e:sp.length+1-k=(sp.length+1-(k+1))+1:=Za
      rw [e,Wn]
     have hln:=Un (XB (ZY x t sp) (Yd r.rests) k l) [];have hln2:=Ji (x:=x) (t:=t) (sp:=sp) (r:=r.rests) (k:=k) l;exact ⟨(k+1,ZM Zu [] (XB (ZY x t sp) (Yd r.rests) k l)),⟨Za,hit.trans hn,Fk hok hs1 hk2 hlo,by grind⟩,Za,Weak.mk (by simp (disch:=omega) only [List.set_cons_succ,List.set_cons_zero,go_sem,seval])⟩
    ·have hkn:k=sp.length+1:=Za
     subst hkn;rw [Nat.sub_self,Wn] at hit;rw [hit] at hbn ⊢;clear hit;refine cD ?_ ?_<;>intro h3<;>simp (disch:=omega) only [Sh.out h3,go_sem,seval,↓reduceIte]
     ·have hl0:l= []:=List.eq_nil_of_length_eq_zero Za;subst hl0;have hbn:=hbn rfl;refine ZW (US 3 rfl rfl (Zi ?_));refine ⟨_,_,GA (e:=4) rfl Tryz.underlying91 Zh rfl rfl rfl ?_ ?_ ?_,?_⟩
      ·simp
      ·simp;omega
      ·intro q hq;obtain ⟨b,_,rfl⟩:=List.mem_map.1 hq
       rfl
      ·have hpl:(Va r.rests (sp.length+1)).length=sp.length+1:=by simp [Va];omega
       have hpad:r.rests.map eB++(PV.bool false::List.replicate r.visits.length (PV.bool false)).drop (r.rests.map eB).length=(Va r.rests (sp.length+1)).map eB:=by
        rw [Va,List.map_append,<- List.replicate_succ,List.drop_replicate,List.map_replicate,hsl,List.length_map];rfl
       have hcr:=cP x t r false sp hok hs1 hs (Va r.rests (sp.length+1)) false hpl;have hbad:=AI _ _ _ hbn;rw [hbad] at hcr;simp only [List.set_cons_succ,List.set_cons_zero];rw [hpad]
       generalize hRP:Va r.rests (sp.length+1)=rp at *
       refine Zs (Weak.fz (o:=5) (by rfl)) (Ze [] _ _ _ _ (V1 ?_));rw [if_pos Za];refine XF hcr (Zi ?_);have hfm0:Yz XT none ([]:List Lab)=none:=rfl;rw [hfm0];exact we (by simp (disch:=omega) only [Xz,zShe,List.map_nil,go_sem,seval])
     ·cases l with
      | nil=>simp at h3
      | cons l0 l =>
       have e0:YT ((l0::l).map Y8) 0=Y8 l0:=rfl;have hn0:nth (l0::l) 0=l0:=rfl;simp (disch:=first | omega | (simp only [List.length_cons,List.length_nil,List.length_append,List.length_map,List.length_take,List.length_drop]<;>omega)) only [hn0,List.take_length,go_sem,seval];have hfm:Yz XT none (l0::l)=Yz XT (some l0) l:=rfl;rw [hfm]
       have hlen:l.length<=2097152:=by
        have hp20:2^(sp.length+1)<=2^21:=Nat.pow_le_pow_right Za Za
        grind
       refine Zm [4,12,65,66] (fun q:Nat×Lab=> [(67,.p (.int .i64 q.1))]) (fun q=> [Zj x,ZE r,.cells [.p (.bool false),.p (.int .i64 0),.p (.list true []),.p (.int .i64 0),.p (.int .i64 0)],Z5 x t r false sp,.dead,Xr q.2])
        (fun q=>q.1<=l.length/\Yz XT (some l0) l=Yz XT (some q.2) (l.drop q.1)) (fun q=>l.length-q.1) (0,l0) Zb (Weak.mk ?_) ?_
       ·simp (disch:=omega) only [Zj,ZE,Z5,Xr,go_sem,seval]
       ·rintro ⟨i,m⟩ ⟨hi,hm⟩;simp only at hi hm;simp (disch:=omega) only [Zj,ZE,Z5,Xr,go_sem,seval];refine cD ?_ ?_<;>intro h4<;>simp (disch:=omega) only [Sh.out h4,go_sem,seval,↓reduceIte]
        ·have hi2:i<l.length:=Za
         have hdrop:l.drop i=nth l i::l.drop (i+1):=by rw [List.drop_eq_getElem_cons hi2,Zg hi2]
         rw [hdrop,Yz] at hm;refine XL ?_ ?_<;>intro h5
         ·rw [if_pos (show XT (nth l i)<XT m from h5)] at hm;exact ⟨(i+1,nth l i),⟨Za,hm⟩,Za,wk⟩
         ·rw [if_neg (show ¬XT (nth l i)<XT m from h5)] at hm;exact ⟨(i+1,m),⟨Za,hm⟩,Za,wk⟩
        ·have hil:i=l.length:=Za
         subst hil;rw [List.drop_length,Yz] at hm;rw [hm];exact we
 ·have e:YS x r=(zShe,2):=by rw [YS,if_neg (fun h=>hs ⟨h.1,h.2.1⟩)]
  rw [e];refine XF (La x r hty htl hvl hs) ?_;simp (disch:=omega) only [Ir,go_sem,seval];exact we (by simp (disch:=omega) only [zShe,List.map_nil,go_sem,seval])
end Go.Proofs.YtmbelkfkhclnkaaGreatDoor.K
namespace Go.AM
open Go.RowKit
theorem Gs (k v:Int) (l:List (Int×Int)): ∃l',IS (.int .i64 k) (.int .i64 v) (l.map eII)=l'.map eII/\(∀q,WM l' q=if q=k then v else WM l q)/\l'.length<=l.length+1:=by
 unfold IS;rw [Ul]
 cases hm:JF l k with
 | none =>
  refine ⟨l++ [(k,v)],by simp [eII],fun q=> ?_,Zb⟩
  have e1:JF (l++ [(k,v)]) k=some l.length:=by
   grind [JF]
  by_cases hq:q=k
  ·grind [WM]
  ·rw [if_neg hq];unfold WM
   have e3:JF (l++ [(k,v)]) q=JF l q:=by
    grind [JF]
   rw [e3]
   cases hc:JF l q with
   | none=>rfl
   | some i =>
    unfold JF at hc
    grind [List.findIdx?_eq_some_iff_getElem]
 | some i =>
  refine ⟨l.set i (k,v),by simp_all [eII],?_,Zb⟩;have hH:Xo [.map (l.map eII)] 0= .map (l.map eII):=rfl;have:=BP (H:= [.map (l.map eII)]) (o:=0) (l:=l) (k:=k) (i:=i) (v:=v) (K:=fun _ _=> ∀q,WM (l.set i (k,v)) q=if q=k then v else WM l q) hH hm fun h=>h;unfold WV at this;obtain ⟨u,q1,_⟩:=Qv hm
  simp_all [Qw]
theorem Gt {P:Program} {H:List Obj} {t:TypeId} {o:Nat} {l:List (Int×Int)} {k v:Int} {K:V->List Obj->Prop} (hT:Gm P t=some (.int .i64,some (.int .i64 0))) (hH:Xo H o= .map (l.map eII))
  (h: ∀l':List (Int×Int),(∀q,WM l' q=if q=k then v else WM l q)->K .junk (H.set o (.map (l'.map eII)))):Qw (Jg P H t (.mp o) (.p (.int .i64 k)) (.p (.int .i64 v))) K:=by
 obtain ⟨kt,et,h1,h2,h3⟩:=Ap hT;obtain ⟨l',e,hg,_⟩:=Gs k v l
 grind [Jg,JB,Qw]
end Go.AM
namespace Go.Proofs.YtmbelkfkhclnkaaGreatDoor.K
open Go Go.AM Go.Proofs
set_option maxRecDepth 8000
set_option maxHeartbeats 8000000
def Qa (l:List Vis) (k:Nat) (q:Int):Int:=((l.take k).countP fun v=>decide (v.order=q):Nat)
theorem DV {l:List Vis} {k:Nat} (h:k<l.length) (q:Int):Qa l (k+1) q=if q=(nth l k).order then Qa l k q+1 else Qa l k q:=by
 unfold Qa;rw [List.take_succ_eq_append_getElem h,List.countP_append,Zg h]
 grind
theorem Fs {l:List Vis} {k:Nat} (h:k<=l.length) (q:Int):0<=Qa l k q/\Qa l k q<=k:=by
 grind [Qa,List.length_take]
theorem Bw {l:List Vis} {k:Nat} :Qj l k=decide (Qa l k (nth l k).order=0):=by
 unfold Qj Qa;rw [Bool.eq_iff_iff];simp
theorem Vr (a b:Int):PC 195 [.p (.int .i64 a),.p (.int .i64 b)] (.bool (VE a b)):=by
 refine Zc Tryz.func195 rfl Oa ?_;simp (disch:=omega) only [Tryz.f195,go_sem,seval];refine gT ?_ ?_<;>intro h<;>simp (disch:=omega) only [Sh.out h,go_sem,seval,↓reduceIte]
 ·simp [VE,h]
 simp_all [VE]
theorem GJ (x:Inst) (r:Rte) (s:She) (hty:0<=r.typ/\r.typ<(x.types.length:Int)) (ho:x.orders.length<=1048576) (ht:x.types.length<=1048576) (hl:r.visits.length<=1048576) (hv:Inr x r.visits)
  (hc:0<=(ZP x r).fixed/\(ZP x r).fixed<=100000/\0<=(ZP x r).perMile/\(ZP x r).perMile<=100/\0<=(ZP x r).perTick/\(ZP x r).perTick<=100) (ho2:0<=(ZP x r).opn/\(ZP x r).opn<=4096)
  (hf: -4096<=s.fin/\s.fin<=8192) (hm:0<=s.miles/\s.miles<=1000000) :
  PC 157 [.p (XQ x),.p (X1 r),.p (D0 s)] (Ip (Ll x r s)):=by
 have hti:r.typ.toNat<x.types.length:=Za
 have hT:Gm Tryz.prog 264=some (.int .i64,some (.int .i64 0)):=Zh
 unfold Ll;have htd:nth x.types r.typ.toNat=ZP x r:=rfl
 generalize ZP x r=t at *
 have e1: ¬r.typ<0:=Za
 have e2: ¬(x.types.length:Int)<=r.typ:=Za
 have p1:0<=t.perMile*s.miles/\t.perMile*s.miles<=100*1000000:=⟨Int.mul_nonneg Za Za,Int.mul_le_mul Za Za Za Za⟩
 have hW: -8192<=s.fin-t.opn/\s.fin-t.opn<=8192:=Za
 have p2: -819200<=t.perTick*(s.fin-t.opn)/\t.perTick*(s.fin-t.opn)<=819200:=by
  generalize s.fin-t.opn=w at hW;have a1:=Int.mul_le_mul_of_nonneg_left hW.2 (show 0<=t.perTick by omega);have a2:=Int.mul_le_mul_of_nonneg_left hW.1 (show 0<=t.perTick by omega);omega
 have p3: -128<=(s.fin-t.opn).tdiv 64/\(s.fin-t.opn).tdiv 64<=128:=by
  grind
 have p4:0<=(s.fin-t.opn).tdiv 64*(s.fin-t.opn).tdiv 64/\(s.fin-t.opn).tdiv 64*(s.fin-t.opn).tdiv 64<=16384:=by
  generalize (s.fin-t.opn).tdiv 64=q at p3;refine ⟨?_,?_⟩
  ·rcases Int.le_total 0 q with h | h
   ·exact Int.mul_nonneg h h
   ·exact Int.mul_nonneg_of_nonpos_of_nonpos h h
  ·rcases Int.le_total 0 q with h | h
   ·have:=Int.mul_le_mul p3.2 p3.2 h Za;omega
   ·have h2:0<= -q:=Za
    have:=Int.mul_le_mul (show-q<=128 by omega) (show-q<=128 by omega) h2 Za
    grind
 refine Zc Tryz.func157 rfl NN ?_;simp (disch:=omega) only [Tryz.f157,e1,e2,htd,go_sem,seval]
 refine Zm [3,4,6,10,11,59,60] (fun q:Nat×List (Int×Int)=> [(61,.p (.int .i64 q.1))]) (fun q=> [Zj x,ZE r,.cells [.p (.bool s.rest),.p (.int .i64 s.dep),.p (.list s.times_c (s.times.map eTim)),.p (.int .i64 s.fin),.p (.int .i64 s.miles)],Cb 0 0 0 0,Pu t,Cb (t.fixed+t.perMile*s.miles+t.perTick*(s.fin-t.opn)) (chgF x r.visits r.typ q.1).1 (chgF x r.visits r.typ q.1).2 ((s.fin-t.opn).tdiv 64*(s.fin-t.opn).tdiv 64),.map (q.2.map eII)])
  (fun q=>q.1<=r.visits.length/\ ∀n,WM q.2 n=Qa r.visits q.1 n) (fun q=>r.visits.length-q.1) (0,[]) ⟨Zb,fun n=>rfl⟩ (Weak.mk ?_) ?_
 ·simp (disch:=omega) only [Zj,ZE,Pu,Cb,chgF,go_sem,seval]
 ·rintro ⟨k,m⟩ ⟨hk,hmg⟩;simp only at hk hmg;have hch:=K1 (x:=x) (l:=r.visits) (t:=r.typ) k;simp (disch:=omega) only [Zj,ZE,Pu,Cb,go_sem,seval];refine cD ?_ ?_<;>intro h1<;>simp (disch:=omega) only [Sh.out h1,go_sem,seval,↓reduceIte]
  ·have hk2:k<r.visits.length:=Za
   obtain ⟨v1,v2⟩:=hv _ (Xb hk2)
   have e3: ¬(nth r.visits k).order<0:=Za
   have e4: ¬(x.orders.length:Int)<=(nth r.visits k).order:=Za
   have v3:(nth r.visits k).order.toNat<x.orders.length:=Za
   have hcs:=DV hk2;have hcr:=Fs hk (nth r.visits k).order;have hfi:=Bw (l:=r.visits) (k:=k);have hch2:chgF x r.visits r.typ (k+1)=_:=chgF.eq_2 x r.visits r.typ k;refine An hT rfl ?_;rw [hmg];refine Zi ?_;refine Gt hT rfl fun m' hm'=> ?_
   have hmg': ∀n,WM m' n=Qa r.visits (k+1) n:=fun n=>by grind
   simp (disch:=omega) only [e3,e4,List.set_cons_succ,List.set_cons_zero,go_sem,seval];refine An hT rfl ?_;rw [hm',if_pos rfl];refine Zi ?_;refine XL ?_ ?_<;>intro h2
   ·have h3: ¬Qj r.visits k=true:=by grind
    rw [if_neg h3] at hch2;exact ⟨(k+1,m'),⟨Za,hmg'⟩,Za,Weak.mk (by simp (disch:=omega) only [hch2,go_sem,seval])⟩
   ·have h3:Qj r.visits k=true:=by grind
    rw [if_pos h3] at hch2;refine (Vr (nth x.orders (nth r.visits k).order.toNat).now r.typ).use (Zi ?_);refine cD ?_ ?_<;>intro h4<;>simp (disch:=omega) only [Sh.out h4,go_sem,seval,↓reduceIte]
    ·rw [if_pos h4] at hch2;refine (Vr (nth x.orders (nth r.visits k).order.toNat).last r.typ).use (Zi ?_);refine XL ?_ ?_<;>intro h5
     ·rw [if_pos h5] at hch2;exact ⟨(k+1,m'),⟨Za,hmg'⟩,Za,Weak.mk (by simp (disch:=omega) only [hch2,go_sem,seval])⟩
     ·rw [if_neg (by rw [h5];simp)] at hch2;exact ⟨(k+1,m'),⟨Za,hmg'⟩,Za,Weak.mk (by simp (disch:=omega) only [hch2,Int.add_zero,go_sem,seval])⟩
    ·rw [if_neg (by rw [h4];simp)] at hch2;refine (Vr (nth x.orders (nth r.visits k).order.toNat).last r.typ).use (Zi ?_);refine XL ?_ ?_<;>intro h5
     ·rw [if_pos h5] at hch2;exact ⟨(k+1,m'),⟨Za,hmg'⟩,Za,Weak.mk (by simp (disch:=omega) only [hch2,Int.add_zero,go_sem,seval])⟩
     ·rw [if_neg (by rw [h5];simp)] at hch2;exact ⟨(k+1,m'),⟨Za,hmg'⟩,Za,Weak.mk (by simp (disch:=omega) only [hch2,Int.add_zero,go_sem,seval])⟩
  grind
end Go.Proofs.YtmbelkfkhclnkaaGreatDoor.K
namespace Go.Proofs.YtmbelkfkhclnkaaGreatDoor.K
open Go Go.AM Go.Proofs
set_option maxRecDepth 8000
set_option maxHeartbeats 8000000
@[go_sem] theorem Ru {f:FuncId} :(PV.fn f).cells= [.fn f]:=Eq.trans rfl rfl
def Pg : AM.Obj:= .cells [.p (.bool false),.p (.int .i64 0),.p (.list true []),.p (.int .i64 0),.p (.int .i64 0)]
theorem BC (x:Inst) (r:Rte) (hx:InstOk x) (hl:r.visits.length<=1048576) (hrl:r.rests.length<=1048576):ACalls Tryz.prog 112 [.p (XQ x),.p (X1 r)] [] fun y H'=>y=K7 x r/\H'= []:=by
 have hld:=VJ hx;have htl:=hld.typ;have hol:=hld.ord;have chk:=GK x r hx hl
 have htb:x.types.length<=6:=by have:=hx.types.1;simp only [rng,decide_eq_true_eq] at this;omega
 refine Zd [] Tryz.func112 rfl Nx ?_;simp (disch:=omega) only [Tryz.f112,go_sem,seval];refine gF ?_ ?_<;>intro h1<;>simp (disch:=omega) only [Sh.out h1,go_sem,seval,↓reduceIte]
 ·have e:X5 x r=2:=by rw [X5,if_pos Za]
  rw [Yo (e:=2) (by rw [Z2,e];rfl) Za];exact we (by simp (disch:=omega) only [zShe,zSco,List.map_nil,go_sem,seval])
 ·refine cD ?_ ?_<;>intro h2<;>simp (disch:=omega) only [Sh.out h2,go_sem,seval,↓reduceIte]
  ·have e:X5 x r=2:=by simp_all [X5]
   rw [Yo (e:=2) (by rw [Z2,e];rfl) Za];exact we (by simp (disch:=omega) only [zShe,zSco,List.map_nil,go_sem,seval])
  ·have hty:0<=r.typ/\r.typ<(x.types.length:Int):=Za
   have hti:r.typ.toNat<x.types.length:=Za
   have hnum:=A5 hx hti;have htyp:nth x.types r.typ.toNat=ZP x r:=rfl;rw [htyp] at hnum
   have hsk: ∀o∈x.orders,o.skills<9223372036854775808:=fun o hm=>by
    obtain ⟨i,hi,rfl⟩:=List.mem_iff_getElem.1 hm;have:=(hx.orders.2 i hi).skills
    grind [Zg]
   refine Zm [2,3,4,5,25,26] (fun k:Nat=> [(27,.p (.int .i64 k))]) (fun _=> [Zj x,ZE r,Pg,Cb 0 0 0 0,.elems 1 [.fn 153,.fn 154,.fn 155]])
    (fun k=>k<=3/\(0<k->ZZ x r.visits=0)/\(1<k-> ¬(r.visits.any fun v=> !YR (ZP x r) (nth x.orders v.order.toNat).skills)=true)/\(2<k->Qr x (ZP x r).cap r.visits=true)) (fun k=>3-k) 0 ⟨Za,Za,Za,Za⟩ (Weak.mk ?_) ?_
   ·simp (disch:=omega) only [Zj,ZE,Cb,Pg,go_sem,seval]
   ·rintro k ⟨hk,k1,k2,k3⟩;simp (disch:=omega) only [Zj,ZE,Cb,Pg,go_sem,seval];refine cD ?_ ?_<;>intro h3<;>simp (disch:=omega) only [Sh.out h3,go_sem,seval,↓reduceIte]
    ·by_cases hk0:k=0
     ·subst hk0;have he:YT [PV.fn 153,PV.fn 154,PV.fn 155] 0=PV.fn 153:=rfl;simp (disch:=first | omega | (simp only [List.length_cons,List.length_nil,List.length_append,List.length_map,List.length_take,List.length_drop]<;>omega)) only [he,go_sem,seval,↓reduceIte];refine (chk).use (Zi ?_);refine XL ?_ ?_<;>intro h4
      ·have e:X5 x r=ZZ x r.visits:=by simp_all [X5]
       rw [Yo (e:=ZZ x r.visits) (by simp_all [Z2]) h4];exact we (by simp (disch:=omega) only [zShe,zSco,List.map_nil,go_sem,seval])
      ·exact ⟨1,⟨Za,fun _=>Za,Za,Za⟩,Za,wk⟩
     ·have h0:=k1 Za;have hsq:=Wg h0
      have hr0:X5 x r=if (r.visits.any fun v=> !YR (ZP x r) (nth x.orders v.order.toNat).skills)=true then 18 else if Qr x (ZP x r).cap r.visits=false then 17 else if ¬(0<=r.start/\r.start<=4096/\r.rests.length<=r.visits.length+1) then 2 else 0:=by
       rw [X5,if_neg (fun h=>h hty),if_neg Za]
      by_cases hk1:k=1
      ·subst hk1;have he:YT [PV.fn 153,PV.fn 154,PV.fn 155] 1=PV.fn 154:=rfl;simp (disch:=first | omega | (simp only [List.length_cons,List.length_nil,List.length_append,List.length_map,List.length_take,List.length_drop]<;>omega)) only [he,go_sem,seval,↓reduceIte];refine (GI x r hty (fun v hv=>by have:=hsq.inr v hv;grind [Nu]) hl htl Za Za hsk).use (Zi ?_)
       by_cases h5:(r.visits.any fun v=> !YR (ZP x r) (nth x.orders v.order.toNat).skills)=true
       ·rw [if_pos h5] at hr0 ⊢;rw [Yo (e:=18) (by rw [Z2,hr0];rfl) Za];refine Zi ?_;exact we (by simp (disch:=omega) only [zShe,zSco,List.map_nil,go_sem,seval])
       ·rw [if_neg h5];refine Zi ?_;exact ⟨2,⟨Za,fun _=>h0,fun _=>h5,Za⟩,Za,wk⟩
      ·have hk2:k=2:=Za
       subst hk2;have he:YT [PV.fn 153,PV.fn 154,PV.fn 155] 2=PV.fn 155:=rfl;simp (disch:=first | omega | (simp only [List.length_cons,List.length_nil,List.length_append,List.length_map,List.length_take,List.length_drop]<;>omega)) only [he,go_sem,seval,↓reduceIte];refine (GF x r hx hl hty h0).use (Zi ?_);rw [if_neg (k2 Za)] at hr0
       cases h5:Qr x (ZP x r).cap r.visits with
       | false =>
        rw [if_pos h5] at hr0;rw [Yo (e:=17) (by rw [Z2,hr0];rfl) Za];simp only [Bool.false_eq_true,if_false];refine Zi ?_;exact we (by simp (disch:=omega) only [zShe,zSco,List.map_nil,go_sem,seval])
       | true =>
        simp only [if_true];refine Zi ?_;exact ⟨3,⟨Za,fun _=>h0,fun _=>k2 Za,fun _=>Zb⟩,Za,wk⟩
    ·have hk3:k=3:=Za
     subst hk3;have h0:=k1 Za;have hsq:=Wg h0
     have hr0:X5 x r=if ¬(0<=r.start/\r.start<=4096/\r.rests.length<=r.visits.length+1) then 2 else 0:=by
      rw [X5,if_neg (fun h=>h hty),if_neg Za,if_neg (k2 Za),if_neg (by grind)]
     have cb:=I2 x r hx hl hrl hty h0;have hok:=A4 hx hty hsq
     have hbr:YS x r=XJ x r->(XJ x r).2=0->(0<=r.start/\r.start<=4096/\r.rests.length<=r.visits.length+1)->(0<=(XJ x r).1.fin/\(XJ x r).1.fin<=8192)/\(0<=(XJ x r).1.miles/\(XJ x r).1.miles<=210000):=fun _ hz hs =>
      Fi hok ⟨hs.1,hs.2.1⟩ (by grind [XV]) hz
     by_cases h6:0<=r.start/\r.start<=4096/\r.rests.length<=r.visits.length+1
     ·have e:X5 x r=0:=Za
      have ee:Z2 x r=(XJ x r).2:=by rw [Z2,if_pos e]
      have eb:YS x r=XJ x r:=by rw [YS,if_pos h6]
      have hbr:=fun hz=>hbr eb hz h6;rw [eb] at cb
      have es:CS x r=if (XJ x r).2=0 then (XJ x r).1 else zShe:=by rw [CS,ee]
      have ep:CR x r=if (XJ x r).2=0 then Ll x r (XJ x r).1 else zSco:=by rw [CR,ee]
      unfold K7;rw [ee,es,ep];clear ee es ep eb
      generalize XJ x r=q at *
      obtain ⟨sh,eb⟩:=q;simp only at cb hbr ⊢;refine XF cb (Zi ?_);refine cD ?_ ?_<;>intro h7<;>simp (disch:=omega) only [Sh.out h7,go_sem,seval,↓reduceIte]
      ·exact we (by simp (disch:=omega) only [zShe,zSco,List.map_nil,go_sem,seval])
      ·have h7':eb=0:=Za
       try rw [if_pos h7',if_pos h7']
       subst h7';obtain ⟨g1,g2⟩:=hbr rfl;refine Xg 5 mixed Zh Zh (Zi ?_);refine ZQ (GJ x r sh hty Za htl hl hsq.inr hnum.2.2.2.1 Za Za Za) (Zi ?_);exact we
     ·have e:X5 x r=2:=Za
      have eb:YS x r=(zShe,2):=by rw [YS,if_neg h6]
      rw [Yo (e:=2) (by rw [Z2,e];rfl) Za];rw [eb] at cb;refine XF cb (Zi ?_);exact we (by simp (disch:=omega) only [zShe,zSco,List.map_nil,go_sem,seval])
theorem GM (x:Inst) (r:Rte) (hx:InstOk x) (hl:r.visits.length<=1048576) (hrl:r.rests.length<=1048576):PC 82 [.p (XQ x),.p (X1 r)] (.int .i64 (Z2 x r)):=by
 have ce:=BC x r hx hl hrl;refine Zc Tryz.func82 rfl aW ?_;simp (disch:=omega) only [Tryz.f82,go_sem,seval];unfold K7 at ce;refine Hj ce ?_;simp (disch:=omega) only [go_sem,seval,↓reduceIte]
theorem K8 {x:Inst} {r:Rte} (h:Z2 x r=0):X5 x r=0:=by
 grind [Z2]
theorem JM {x:Inst} {r:Rte} (h:X5 x r=0):(0<=r.typ/\r.typ<(x.types.length:Int))/\ZZ x r.visits=0/\(0<=r.start/\r.start<=4096/\r.rests.length<=r.visits.length+1):=by
 unfold X5 at h;omega
def Zv (rs:List Rte) (i:Nat):Int:=(rs.countP fun r=>Xt r.visits (i:Int):Nat)
def ZU (us:List Int) (i:Nat):Int:=(us.countP fun u=>decide (u=(i:Int)):Nat)
def XM (rs:List Rte) (i:Nat):Int:=(rs.countP fun r=>decide (r.typ=(i:Int)):Nat)
theorem Jk {rs:List Rte} {k:Nat} (h:k<rs.length) (i:Nat):Zv (rs.take (k+1)) i=if Xt (nth rs k).visits (i:Int)=true then Zv (rs.take k) i+1 else Zv (rs.take k) i:=by
 grind [Zv,List.take_succ_eq_append_getElem,Zg]
theorem Jl {us:List Int} {k:Nat} (h:k<us.length) (i:Nat):ZU (us.take (k+1)) i=if nth us k=(i:Int) then ZU (us.take k) i+1 else ZU (us.take k) i:=by
 grind [ZU,List.take_succ_eq_append_getElem,Zg]
theorem DW {rs:List Rte} {k:Nat} (h:k<rs.length) (i:Nat):XM (rs.take (k+1)) i=if (nth rs k).typ=(i:Int) then XM (rs.take k) i+1 else XM (rs.take k) i:=by
 grind [XM,List.take_succ_eq_append_getElem,Zg]
theorem Qb {rs:List Rte} {k:Nat} (i:Nat):0<=Zv (rs.take k) i/\Zv (rs.take k) i<=rs.length:=by
 grind [List.length_take,Zv]
theorem Qc {us:List Int} {k:Nat} (i:Nat):0<=ZU (us.take k) i/\ZU (us.take k) i<=us.length:=by
 grind [List.length_take,ZU]
theorem Fu {rs:List Rte} {k:Nat} (i:Nat):0<=XM (rs.take k) i/\XM (rs.take k) i<=rs.length:=by
 grind [List.length_take,XM]
def Zw (f:Nat->Int) (n:Nat):List Int:=(List.range n).map f
theorem VR {f n} :(Zw f n).length=n:=by simp [Zw]
theorem X4 {f n j} (h:j<n):nth (Zw f n) j=f j:=YZ h
theorem WR {f n j v} :(Zw f n).set j v=Zw (fun i=>if i=j then v else f i) n:=by
 apply List.ext_getElem (by simp [Zw]);intro i h1 h2;rw [List.getElem_set];simp [Zw];omega
theorem XX {f g:Nat->Int} {n:Nat} (h: ∀i,i<n->f i=g i):Zw f n=Zw g n:=List.map_congr_left fun i hi=>h i (List.mem_range.1 hi)
theorem CK {x:Inst} {l:List Vis} (hi:Inr x l) (i:Nat) (h:i<=62):(((Yi l:Nat):Int).fdiv (2^i))%2=if Xt l (i:Int)=true then 1 else 0:=by
 have h1:UP ((Yi l:Nat):Int) (i:Int)=Xt l (i:Int):=by
  rw [AQ _ _ h,Bool.eq_iff_iff,QA,WH]
  constructor
  ·rintro ⟨v,hv,e⟩;exact ⟨v,hv,by have:=hi v hv;omega⟩
  grind
 rw [<- h1];unfold UP
 grind
theorem QP {P Q:Prop} (h:Q) (e:Q->P:=by intro h;simp (disch:=omega) only [Zj,Zy,go_sem,seval];exact h):P:=e h
theorem Jn (x:Inst) (p:Pln) (htl:x.types.length<=1048576) (hr:p.routes.length<=1048576) (hty: ∀r∈p.routes,0<=r.typ/\r.typ<(x.types.length:Int)) :
  PC 86 [.p (XQ x),.p (Qg p)] (.bool ((List.range x.types.length).any fun t=>decide ((nth x.types t).count<XM p.routes t))):=by
 refine Zc Tryz.func86 rfl bA ?_;simp (disch:=omega) only [Tryz.f86,go_sem,seval]
 have hz:List.replicate x.types.length (PV.int .i64 0)=(Zw (XM (p.routes.take 0)) x.types.length).map eI:=by
  rw [XX (g:=fun _=>0) (fun i _=>by simp [XM]),Zw,List.map_map];rw [show (eI∘fun _:Nat=>(0:Int))=fun _=>PV.int .i64 0 from rfl,List.map_const',List.length_range]
 have hrl: ∀f,(Zw f x.types.length).length=x.types.length:=fun f=>VR;refine Zm [2,5,15,16] (fun k:Nat=> [(17,.p (.int .i64 k))]) (fun k=> [Zj x,Zy p,.elems 1 ((Zw (XM (p.routes.take k)) x.types.length).map eI)]) (fun k=>k<=p.routes.length) (fun k=>p.routes.length-k) 0 Zb (Weak.mk ?_) ?_
 ·simp (disch:=omega) only [Zj,Zy,hz,go_sem,seval]
 ·intro k hk;refine QP ?_;refine cD ?_ ?_<;>intro h1<;>simp (disch:=omega) only [Sh.out h1,go_sem,seval,↓reduceIte]
  ·have hk2:k<p.routes.length:=Za
   obtain ⟨t1,t2⟩:=hty _ (Zq hk2)
   have hti:(nth p.routes k).typ.toNat<x.types.length:=Za
   have hsu:=DW hk2;have hrg:=Fu (rs:=p.routes) (k:=k)
   have hnx:(Zw (XM (p.routes.take k)) x.types.length).set (nth p.routes k).typ.toNat (XM (p.routes.take k) (nth p.routes k).typ.toNat+1)=Zw (XM (p.routes.take (k+1))) x.types.length:=by
    rw [WR];refine XX fun i _=> ?_
    grind
   have hrr:=hrl (XM (p.routes.take k));have hg:=hrg (nth p.routes k).typ.toNat;have hnt:nth (Zw (XM (p.routes.take k)) x.types.length) (nth p.routes k).typ.toNat=XM (p.routes.take k) (nth p.routes k).typ.toNat:=X4 hti
   have he:YT ((Zw (XM (p.routes.take k)) x.types.length).map eI) (nth p.routes k).typ.toNat= .int .i64 (XM (p.routes.take k) (nth p.routes k).typ.toNat):=by rw [Yh Za,hnt];rfl
   generalize XM (p.routes.take k) (nth p.routes k).typ.toNat=c at *
   generalize Zw (XM (p.routes.take k)) x.types.length=R at *
   have Zt:(R.map eI).set (nth p.routes k).typ.toNat (.int .i64 (c+1))=(Zw (XM (p.routes.take (k+1))) x.types.length).map eI:=by rw [<- hnx,List.map_set];rfl
   simp (disch:=first | omega | (simp only [List.length_cons,List.length_nil,List.length_append,List.length_map,List.length_take,List.length_drop]<;>omega)) only [he,hrr,hti,eq_self,true_and,go_sem,seval];exact ⟨k+1,Za,Za,Weak.mk (by simp (disch:=omega) only [Zt,go_sem,seval])⟩
  ·have hkl:k=p.routes.length:=Za
   subst hkl;rw [List.take_length];have hrr:=hrl (XM p.routes);have hnt: ∀j,j<x.types.length->nth (Zw (XM p.routes) x.types.length) j=XM p.routes j:=fun j hj=>X4 hj
   generalize Zw (XM p.routes) x.types.length=R at *
   simp (disch:=first | omega | (simp only [List.length_cons,List.length_nil,List.length_append,List.length_map,List.length_take,List.length_drop]<;>omega)) only [hrr,eq_self,go_sem,seval,↓reduceIte];refine Zm [2,29,30] (fun k:Nat=> [(31,.p (.int .i64 k))]) (fun _=> [Zj x,Zy p,.elems 1 (R.map eI)]) (fun k=>k<=x.types.length/\ ∀j,j<k->decide ((nth x.types j).count<XM p.routes j)=false) (fun k=>x.types.length-k) 0 Zb (Weak.mk ?_) ?_
   ·simp (disch:=omega) only [Zj,Zy,go_sem,seval]
   ·rintro k ⟨hk,hno⟩;refine QP ?_;refine cD ?_ ?_<;>intro h2<;>simp (disch:=omega) only [Sh.out h2,go_sem,seval,↓reduceIte]
    ·have hk2:k<x.types.length:=Za
     have he:YT (R.map eI) k= .int .i64 (XM p.routes k):=by rw [Yh Za,hnt k hk2];rfl
     simp (disch:=first | omega | (simp only [List.length_cons,List.length_nil,List.length_append,List.length_map,List.length_take,List.length_drop]<;>omega)) only [he,hrr,hk2,eq_self,true_and,go_sem,seval,↓reduceIte];refine XL ?_ ?_<;>intro h3
     ·grind
     ·exact ⟨k+1,⟨Za,Zn.2 ⟨hno,by grind⟩⟩,Za,wk⟩
    grind
def Uw (x:Inst) (us:List Int):Bool:=us.all fun u=>decide (0<=u)&&decide (u<(x.orders.length:Int))
theorem KY {x:Inst} {l:List Vis} (hi:Inr x l) (i:Nat) (h:i<=62):IntKind.i64.wrap ((BitVec.ofInt 64 ((Yi l / pw i:Nat):Int)&&&1#64).toNat:Int)=if Xt l (i:Int)=true then 1 else 0:=by
 have h1:=Cz ((Yi l / pw i:Nat):Int);rw [show BitVec.ofInt 64 1=1#64 from rfl] at h1;rw [h1]
 have h2:(Yi l).testBit i=Xt l (i:Int):=by
  rw [Bool.eq_iff_iff,QA,WH]
  constructor
  ·rintro ⟨v,hv,e⟩;exact ⟨v,hv,by have:=hi v hv;omega⟩
  grind
 rw [<- h2,Nat.testBit_eq_decide_div_mod_eq];unfold pw
 grind
def EC (x:Inst) (p:Pln) (c:Bool) (A B:List Int):List AM.Obj:= [Zj x,Zy p,.elems 1 ((if c=true then A else B).map eI),.elems 1 ((if c=true then B else A).map eI)]
theorem K2 (x:Inst) (p:Pln) (hn:x.orders.length<=10) (hr:p.routes.length<=1048576) (hu:p.unserved.length<=1048576) (hv: ∀r∈p.routes,Inr x r.visits/\r.visits.length<=1048576) :
  ACalls Tryz.prog 83 [.p (XQ x),.p (Qg p)] [] fun y H'=>y=(if Uw x p.unserved=true then .tup [.p (.list false ((Zw (Zv p.routes) x.orders.length).map eI)),.p (.list false ((Zw (ZU p.unserved) x.orders.length).map eI)),.p (.bool true)] else .tup [.p (.list true []),.p (.list true []),.p (.bool false)])/\H'= []:=by
 refine Zd [1,19] Tryz.func83 rfl aX ?_;simp (disch:=omega) only [Tryz.f83,go_sem,seval]
 have hz:List.replicate x.orders.length (PV.int .i64 0)=(Zw (fun _=>0) x.orders.length).map eI:=by
  rw [Zw,List.map_map];rw [show (eI∘fun _:Nat=>(0:Int))=fun _=>PV.int .i64 0 from rfl,List.map_const',List.length_range]
 have hrl: ∀f,(Zw f x.orders.length).length=x.orders.length:=fun f=>VR;refine X0 [2,3] (fun c:Bool=> [(4,.sl (if c=true then 2 else 3) 0 x.orders.length x.orders.length),(5,.sl (if c=true then 3 else 2) 0 x.orders.length x.orders.length),(6,.p (.bool false))]) (fun c=>EC x p c (Zw (fun _=>0) x.orders.length) (Zw (fun _=>0) x.orders.length)) (fun _=>True) ?_ ?_
 ·refine Zi ?_;refine Vo [3,7,8] 9 mixed Zh Zh Zh Zb (Zi ?_);refine Uj 3 7 _ _ _ _ Zh (by refine Zi ?_;exact ⟨rfl,rfl⟩) (by refine Zi ?_;exact ⟨rfl,rfl⟩) ?_ ?_
  ·refine Uj 7 8 _ _ _ _ Zh (by refine Zi ?_;exact ⟨rfl,rfl⟩) (by refine Zi ?_;exact ⟨rfl,rfl⟩) ?_ ?_
   ·refine Xn 8 _ _ Zh (by refine Zi ?_;exact ⟨rfl,rfl⟩) (W3 ?_);refine Zi ?_;exact ⟨true,Weak.mk (by simp (disch:=omega) only [EC,Zj,Zy,hz,go_sem,seval,↓reduceIte])⟩
   ·refine Xn 7 _ _ Zh (by refine Zi ?_;exact ⟨rfl,rfl⟩) (W3 ?_);refine Zi ?_;exact ⟨true,Weak.mk (by simp (disch:=omega) only [EC,Zj,Zy,hz,go_sem,seval,↓reduceIte])⟩
  ·refine Xn 3 _ _ Zh (by refine Zi ?_;exact ⟨rfl,rfl⟩) (Xn 8 _ _ Zh (by refine Zi ?_;exact ⟨rfl,rfl⟩) (W3 ?_));refine Zi ?_;exact ⟨false,Weak.mk (by simp (disch:=omega) only [EC,Zj,Zy,hz,Bool.false_eq_true,go_sem,seval,↓reduceIte])⟩
 ·intro c _;have hb: ∀k,k<p.routes.length->Ko (nth p.routes k).visits=(((Yi (nth p.routes k).visits:Nat):Int),0):=fun k hk=>De (hv _ (Zq hk)).1 hn
  have hz2:Zw (fun _=>0) x.orders.length=Zw (Zv (p.routes.take 0)) x.orders.length:=XX fun i _=>by simp [Zv]
  have hz3:Zw (fun _=>0) x.orders.length=Zw (ZU (p.unserved.take 0)) x.orders.length:=XX fun i _=>by simp [ZU]
  cases c
  ·refine Ze [19] _ _ _ _ ?_;simp (disch:=omega) only [EC,Zj,Zy,Bool.false_eq_true,go_sem,seval];refine Zz [19] [2,3,4,5,23,24] (fun k:Nat=> [(25,.p (.int .i64 k))]) (fun k=> [Zj x,Zy p,.elems 1 ((Zw (fun _=>0) x.orders.length).map eI),.elems 1 ((Zw (Zv (p.routes.take k)) x.orders.length).map eI)]) (fun k=>k<=p.routes.length) (fun k=>p.routes.length-k) 0 Zb (Weak.mk ?_) ?_
   ·simp (disch:=omega) only [Zj,Zy,hz2,List.take_zero,go_sem,seval]
   ·intro k hk;refine QP ?_;refine cD ?_ ?_<;>intro h1<;>simp (disch:=omega) only [Sh.out h1,go_sem,seval,↓reduceIte]
    ·have hk2:k<p.routes.length:=Za
     obtain ⟨v1,v2⟩:=hv _ (Zq hk2);have hso:=WT (nth p.routes k) v2;rw [hb k hk2] at hso;refine XF hso ?_;have hr0:=hrl (Zv (p.routes.take k));simp (disch:=first | omega | (simp only [List.length_cons,List.length_nil,List.length_append,List.length_map,List.length_take,List.length_drop]<;>omega)) only [hr0,eq_self,go_sem,seval,↓reduceIte];refine Zm [2,3,4,5,9,23,24,25,35] (fun i:Nat=> [(36,.p (.int .i64 i))]) (fun i=> [Zj x,Zy p,.elems 1 ((Zw (fun _=>0) x.orders.length).map eI),.elems 1 ((Zw (fun j=>if j<i then Zv (p.routes.take (k+1)) j else Zv (p.routes.take k) j) x.orders.length).map eI),ZE (nth p.routes k)]) (fun i=>i<=x.orders.length) (fun i=>x.orders.length-i) 0 Zb (Weak.mk ?_) ?_
     ·simp (disch:=omega) only [Zj,Zy,ZE,go_sem,seval]
      congr 1
     ·intro i hi;have hri:=hrl (fun j=>if j<i then Zv (p.routes.take (k+1)) j else Zv (p.routes.take k) j);simp (disch:=omega) only [Zj,Zy,ZE,go_sem,seval];refine XL ?_ ?_<;>intro h2
      ·have hi2:i<x.orders.length:=Za
       have hsu:=Jk hk2 i;have hrg:=Qb (rs:=p.routes) (k:=k) i;have hbt:=CK v1 i Za
       have hn1:nth (Zw (fun j=>if j<i then Zv (p.routes.take (k+1)) j else Zv (p.routes.take k) j) x.orders.length) i=Zv (p.routes.take k) i:=by simp_all [X4]
       have he:YT ((Zw (fun j=>if j<i then Zv (p.routes.take (k+1)) j else Zv (p.routes.take k) j) x.orders.length).map eI) i= .int .i64 (Zv (p.routes.take k) i):=by rw [Yh Za,hn1];rfl
       have Zt:((Zw (fun j=>if j<i then Zv (p.routes.take (k+1)) j else Zv (p.routes.take k) j) x.orders.length).map eI).set i (.int .i64 (Zv (p.routes.take (k+1)) i))=(Zw (fun j=>if j<i+1 then Zv (p.routes.take (k+1)) j else Zv (p.routes.take k) j) x.orders.length).map eI:=by
        have h0:=WR (f:=fun j=>if j<i then Zv (p.routes.take (k+1)) j else Zv (p.routes.take k) j) (n:=x.orders.length) (j:=i) (v:=Zv (p.routes.take (k+1)) i);rw [show PV.int IntKind.i64 (Zv (p.routes.take (k+1)) i)=eI (Zv (p.routes.take (k+1)) i) from rfl,<- List.map_set,h0]
        congr 1
        refine XX fun j _=> ?_
        grind
       refine Xg 9 mixed Zh Zh ?_;refine Zi ?_;simp (disch:=first | omega | (simp only [List.length_cons,List.length_nil,List.length_append,List.length_map,List.length_take,List.length_drop]<;>omega)) only [he,hri,hi2,eq_self,true_and,go_sem,seval];refine ⟨i+1,Za,Za,Weak.mk ?_⟩;have hbs:=KY v1 i Za
       have hw:IntKind.i64.wrap (Zv (p.routes.take k) i+(if Xt (nth p.routes k).visits (i:Int)=true then 1 else 0))=Zv (p.routes.take (k+1)) i:=by
        rw [hsu]
        split
        ·grind [IntWalk.i64_in]
        ·rw [Int.add_zero];grind [IntWalk.i64_in]
       refine Zi ?_
       erw [hbs]
       grind
      ·have hin:i=x.orders.length:=Za
       have hfin:Zw (fun j=>if j<i then Zv (p.routes.take (k+1)) j else Zv (p.routes.take k) j) x.orders.length=Zw (Zv (p.routes.take (k+1))) x.orders.length:=XX fun j hj=>Za
       exact ⟨k+1,Za,Za,Weak.mk (by simp (disch:=omega) only [hfin,go_sem,seval])⟩
    ·have hkl:k=p.routes.length:=Za
     subst hkl;rw [List.take_length];refine Zz [19] [2,52,53] (fun k:Nat=> [(4,.sl 3 0 x.orders.length x.orders.length),(5,.sl 2 0 x.orders.length x.orders.length),(54,.p (.int .i64 k))]) (fun k=> [Zj x,Zy p,.elems 1 ((Zw (ZU (p.unserved.take k)) x.orders.length).map eI),.elems 1 ((Zw (Zv p.routes) x.orders.length).map eI)]) (fun k=>k<=p.unserved.length/\ ∀j,j<k->0<=nth p.unserved j/\nth p.unserved j<(x.orders.length:Int)) (fun k=>p.unserved.length-k) 0 Zb (Weak.mk ?_) ?_
     ·simp (disch:=omega) only [Zj,Zy,hz3,List.take_zero,go_sem,seval]
     ·rintro k ⟨hk,hno⟩;refine QP ?_
      have hbad:k<p.unserved.length->(decide (0<=nth p.unserved k)&&decide (nth p.unserved k<(x.orders.length:Int)))=false->Uw x p.unserved=false:=fun h1 h2=>by
       grind [Uw,Zq]
      refine cD ?_ ?_<;>intro h2<;>simp (disch:=omega) only [Sh.out h2,go_sem,seval,↓reduceIte]
      ·have hk2:k<p.unserved.length:=Za
       refine gF ?_ ?_<;>intro h3<;>simp (disch:=omega) only [Sh.out h3,go_sem,seval,↓reduceIte]
       ·rw [hbad hk2 (by simp;omega)];exact we (by simp (disch:=omega) only [go_sem,seval,↓reduceIte])
       ·refine cD ?_ ?_<;>intro h4<;>simp (disch:=omega) only [Sh.out h4,go_sem,seval]
        ·rw [hbad hk2 (by simp;omega)];exact we (by simp (disch:=omega) only [go_sem,seval,↓reduceIte])
        ·have hui:(nth p.unserved k).toNat<x.orders.length:=Za
         have hsu:=Jl hk2;have hg:=Qc (us:=p.unserved) (k:=k) (nth p.unserved k).toNat;have hrr:=hrl (ZU (p.unserved.take k))
         have hnx:(Zw (ZU (p.unserved.take k)) x.orders.length).set (nth p.unserved k).toNat (ZU (p.unserved.take k) (nth p.unserved k).toNat+1)=Zw (ZU (p.unserved.take (k+1))) x.orders.length:=by
          rw [WR];refine XX fun i _=> ?_
          grind
         have he:YT ((Zw (ZU (p.unserved.take k)) x.orders.length).map eI) (nth p.unserved k).toNat= .int .i64 (ZU (p.unserved.take k) (nth p.unserved k).toNat):=by rw [Yh Za,X4 hui];rfl
         have Zt:((Zw (ZU (p.unserved.take k)) x.orders.length).map eI).set (nth p.unserved k).toNat (.int .i64 (ZU (p.unserved.take k) (nth p.unserved k).toNat+1))=(Zw (ZU (p.unserved.take (k+1))) x.orders.length).map eI:=by rw [<- hnx,List.map_set];rfl
         generalize ZU (p.unserved.take k) (nth p.unserved k).toNat=c at *
         simp (disch:=first | omega | (simp only [List.length_cons,List.length_nil,List.length_append,List.length_map,List.length_take,List.length_drop]<;>omega)) only [he,hrr,hui,eq_self,true_and,go_sem,seval];exact ⟨k+1,⟨Za,Zn.2 ⟨hno,Za⟩⟩,Za,Weak.mk (by simp (disch:=omega) only [Zt,go_sem,seval])⟩
      ·have hkl:k=p.unserved.length:=Za
       subst hkl
       have ZO:Uw x p.unserved=true:=by
        rw [Uw,List.all_eq_true];intro u hu;obtain ⟨j,hj,rfl⟩:=List.mem_iff_getElem.1 hu
        grind [Zg]
       rw [ZO,List.take_length];have r1:=hrl (Zv p.routes);have r2:=hrl (ZU p.unserved);refine Zs (Weak.fz (o:=2) (by rfl)) ?_;refine Zs (Weak.fz (o:=3) (by rfl)) (Ze [] _ _ _ _ (V1 ?_));rw [if_pos r1,if_pos r2];refine Zi ?_;exact we
  ·refine Ze [19] _ _ _ _ ?_;simp (disch:=omega) only [EC,Zj,Zy,go_sem,seval];refine Zz [19] [2,3,4,5,23,24] (fun k:Nat=> [(25,.p (.int .i64 k))]) (fun k=> [Zj x,Zy p,.elems 1 ((Zw (Zv (p.routes.take k)) x.orders.length).map eI),.elems 1 ((Zw (fun _=>0) x.orders.length).map eI)]) (fun k=>k<=p.routes.length) (fun k=>p.routes.length-k) 0 Zb (Weak.mk ?_) ?_
   ·simp (disch:=omega) only [Zj,Zy,hz2,List.take_zero,go_sem,seval]
   ·intro k hk;refine QP ?_;refine cD ?_ ?_<;>intro h1<;>simp (disch:=omega) only [Sh.out h1,go_sem,seval,↓reduceIte]
    ·have hk2:k<p.routes.length:=Za
     obtain ⟨v1,v2⟩:=hv _ (Zq hk2);have hso:=WT (nth p.routes k) v2;rw [hb k hk2] at hso;refine XF hso ?_;have hr0:=hrl (Zv (p.routes.take k));simp (disch:=first | omega | (simp only [List.length_cons,List.length_nil,List.length_append,List.length_map,List.length_take,List.length_drop]<;>omega)) only [hr0,eq_self,go_sem,seval,↓reduceIte];refine Zm [2,3,4,5,9,23,24,25,35] (fun i:Nat=> [(36,.p (.int .i64 i))]) (fun i=> [Zj x,Zy p,.elems 1 ((Zw (fun j=>if j<i then Zv (p.routes.take (k+1)) j else Zv (p.routes.take k) j) x.orders.length).map eI),.elems 1 ((Zw (fun _=>0) x.orders.length).map eI),ZE (nth p.routes k)]) (fun i=>i<=x.orders.length) (fun i=>x.orders.length-i) 0 Zb (Weak.mk ?_) ?_
     ·simp (disch:=omega) only [Zj,Zy,ZE,go_sem,seval]
      congr 1
     ·intro i hi;have hri:=hrl (fun j=>if j<i then Zv (p.routes.take (k+1)) j else Zv (p.routes.take k) j);simp (disch:=omega) only [Zj,Zy,ZE,go_sem,seval];refine XL ?_ ?_<;>intro h2
      ·have hi2:i<x.orders.length:=Za
       have hsu:=Jk hk2 i;have hrg:=Qb (rs:=p.routes) (k:=k) i;have hbt:=CK v1 i Za
       have hn1:nth (Zw (fun j=>if j<i then Zv (p.routes.take (k+1)) j else Zv (p.routes.take k) j) x.orders.length) i=Zv (p.routes.take k) i:=by simp_all [X4]
       have he:YT ((Zw (fun j=>if j<i then Zv (p.routes.take (k+1)) j else Zv (p.routes.take k) j) x.orders.length).map eI) i= .int .i64 (Zv (p.routes.take k) i):=by rw [Yh Za,hn1];rfl
       have Zt:((Zw (fun j=>if j<i then Zv (p.routes.take (k+1)) j else Zv (p.routes.take k) j) x.orders.length).map eI).set i (.int .i64 (Zv (p.routes.take (k+1)) i))=(Zw (fun j=>if j<i+1 then Zv (p.routes.take (k+1)) j else Zv (p.routes.take k) j) x.orders.length).map eI:=by
        have h0:=WR (f:=fun j=>if j<i then Zv (p.routes.take (k+1)) j else Zv (p.routes.take k) j) (n:=x.orders.length) (j:=i) (v:=Zv (p.routes.take (k+1)) i);rw [show PV.int IntKind.i64 (Zv (p.routes.take (k+1)) i)=eI (Zv (p.routes.take (k+1)) i) from rfl,<- List.map_set,h0]
        congr 1
        refine XX fun j _=> ?_
        grind
       refine Xg 9 mixed Zh Zh ?_;refine Zi ?_;simp (disch:=first | omega | (simp only [List.length_cons,List.length_nil,List.length_append,List.length_map,List.length_take,List.length_drop]<;>omega)) only [he,hri,hi2,eq_self,true_and,go_sem,seval];refine ⟨i+1,Za,Za,Weak.mk ?_⟩;have hbs:=KY v1 i Za
       have hw:IntKind.i64.wrap (Zv (p.routes.take k) i+(if Xt (nth p.routes k).visits (i:Int)=true then 1 else 0))=Zv (p.routes.take (k+1)) i:=by
        rw [hsu]
        split
        ·grind [IntWalk.i64_in]
        ·rw [Int.add_zero];grind [IntWalk.i64_in]
       refine Zi ?_
       erw [hbs]
       grind
      ·have hin:i=x.orders.length:=Za
       have hfin:Zw (fun j=>if j<i then Zv (p.routes.take (k+1)) j else Zv (p.routes.take k) j) x.orders.length=Zw (Zv (p.routes.take (k+1))) x.orders.length:=XX fun j hj=>Za
       exact ⟨k+1,Za,Za,Weak.mk (by simp (disch:=omega) only [hfin,go_sem,seval])⟩
    ·have hkl:k=p.routes.length:=Za
     subst hkl;rw [List.take_length];refine Zz [19] [2,52,53] (fun k:Nat=> [(4,.sl 2 0 x.orders.length x.orders.length),(5,.sl 3 0 x.orders.length x.orders.length),(54,.p (.int .i64 k))]) (fun k=> [Zj x,Zy p,.elems 1 ((Zw (Zv p.routes) x.orders.length).map eI),.elems 1 ((Zw (ZU (p.unserved.take k)) x.orders.length).map eI)]) (fun k=>k<=p.unserved.length/\ ∀j,j<k->0<=nth p.unserved j/\nth p.unserved j<(x.orders.length:Int)) (fun k=>p.unserved.length-k) 0 Zb (Weak.mk ?_) ?_
     ·simp (disch:=omega) only [Zj,Zy,hz3,List.take_zero,go_sem,seval]
     ·rintro k ⟨hk,hno⟩;refine QP ?_
      have hbad:k<p.unserved.length->(decide (0<=nth p.unserved k)&&decide (nth p.unserved k<(x.orders.length:Int)))=false->Uw x p.unserved=false:=fun h1 h2=>by
       grind [Uw,Zq]
      refine cD ?_ ?_<;>intro h2<;>simp (disch:=omega) only [Sh.out h2,go_sem,seval,↓reduceIte]
      ·have hk2:k<p.unserved.length:=Za
       refine gF ?_ ?_<;>intro h3<;>simp (disch:=omega) only [Sh.out h3,go_sem,seval,↓reduceIte]
       ·rw [hbad hk2 (by simp;omega)];exact we (by simp (disch:=omega) only [go_sem,seval,↓reduceIte])
       ·refine cD ?_ ?_<;>intro h4<;>simp (disch:=omega) only [Sh.out h4,go_sem,seval]
        ·rw [hbad hk2 (by simp;omega)];exact we (by simp (disch:=omega) only [go_sem,seval,↓reduceIte])
        ·have hui:(nth p.unserved k).toNat<x.orders.length:=Za
         have hsu:=Jl hk2;have hg:=Qc (us:=p.unserved) (k:=k) (nth p.unserved k).toNat;have hrr:=hrl (ZU (p.unserved.take k))
         have hnx:(Zw (ZU (p.unserved.take k)) x.orders.length).set (nth p.unserved k).toNat (ZU (p.unserved.take k) (nth p.unserved k).toNat+1)=Zw (ZU (p.unserved.take (k+1))) x.orders.length:=by
          rw [WR];refine XX fun i _=> ?_
          grind
         have he:YT ((Zw (ZU (p.unserved.take k)) x.orders.length).map eI) (nth p.unserved k).toNat= .int .i64 (ZU (p.unserved.take k) (nth p.unserved k).toNat):=by rw [Yh Za,X4 hui];rfl
         have Zt:((Zw (ZU (p.unserved.take k)) x.orders.length).map eI).set (nth p.unserved k).toNat (.int .i64 (ZU (p.unserved.take k) (nth p.unserved k).toNat+1))=(Zw (ZU (p.unserved.take (k+1))) x.orders.length).map eI:=by rw [<- hnx,List.map_set];rfl
         generalize ZU (p.unserved.take k) (nth p.unserved k).toNat=c at *
         simp (disch:=first | omega | (simp only [List.length_cons,List.length_nil,List.length_append,List.length_map,List.length_take,List.length_drop]<;>omega)) only [he,hrr,hui,eq_self,true_and,go_sem,seval];exact ⟨k+1,⟨Za,Zn.2 ⟨hno,Za⟩⟩,Za,Weak.mk (by simp (disch:=omega) only [Zt,go_sem,seval])⟩
      ·have hkl:k=p.unserved.length:=Za
       subst hkl
       have ZO:Uw x p.unserved=true:=by
        rw [Uw,List.all_eq_true];intro u hu;obtain ⟨j,hj,rfl⟩:=List.mem_iff_getElem.1 hu
        grind [Zg]
       rw [ZO,List.take_length];have r1:=hrl (Zv p.routes);have r2:=hrl (ZU p.unserved);refine Zs (Weak.fz (o:=2) (by rfl)) ?_;refine Zs (Weak.fz (o:=3) (by rfl)) (Ze [] _ _ _ _ (V1 ?_));rw [if_pos r1,if_pos r2];refine Zi ?_;exact we
def Kf (x:Inst):List Rte->Int
 | []=>0
 | r::l=>if Z2 x r=0 then Kf x l else Z2 x r
theorem CP {x:Inst} : ∀ {l:List Rte} {k:Nat},k<l.length->(∀j,j<k->Z2 x (nth l j)=0)-> ¬Z2 x (nth l k)=0->Kf x l=Z2 x (nth l k)
 | r::l,0,_,_,h=>by rw [Kf,if_neg (show ¬Z2 x r=0 from h)];rfl
 | r::l,k+1,hk,h0,h=>by
  rw [Kf,if_pos (show Z2 x r=0 from h0 0 Za)];exact CP (l:=l) (k:=k) (by grind) (fun j hj=>h0 (j+1) Za) h
theorem CQ {x:Inst} : ∀ {l:List Rte},(∀j,j<l.length->Z2 x (nth l j)=0)->Kf x l=0
 | [],_=>rfl
 | r::l,h=>by
  rw [Kf,if_pos (show Z2 x r=0 from h 0 Zb)];exact CQ fun j hj=>h (j+1) (by grind)
def XK (x:Inst) (p:Pln) (R U:List Int):List AM.Obj:= [Zj x,Zy p,.cells [.p (.list false (R.map eI))],.cells [.p (.list false (U.map eI))]]
theorem AZ {P Q:Prop} (h:Q) (e:Q->P:=by intro h;simp (disch:=omega) only [XK,Zj,Zy,go_sem,seval];exact h):P:=e h
theorem Ci (x:Inst) (p:Pln) (R U:List Int) (ho:x.orders.length<=1048576) (g:FuncId) (caps:List V) (f:Nat->Bool) (hc:Zx 4 caps=true)
  (hg: ∀i,i<x.orders.length->ACalls Tryz.prog g (.p (.int .i64 (i:Nat)):: .p (Wr (nth x.orders i))::caps) (XK x p R U) fun y H'=>y= .p (.bool (f i))/\H'=XK x p R U) :
  ACalls Tryz.prog 84 [.fn (.func g) [] caps,.ptr 0 0] (XK x p R U) fun y H'=>y= .p (.bool ((List.range x.orders.length).any f))/\H'=XK x p R U:=by
 refine Zd [] Tryz.func84 rfl aY ?_;simp (disch:=omega) only [Tryz.f84,XK,Zj,Zy,go_sem,seval];refine Zm [0,7,8] (fun k:Nat=> [(9,.p (.int .i64 k))]) (fun _=>XK x p R U) (fun k=>k<=x.orders.length/\ ∀j,j<k->f j=false) (fun k=>x.orders.length-k) 0 Zb (Weak.mk ?_) ?_
 ·simp (disch:=omega) only [XK,Zj,Zy,hc,go_sem,seval,↓reduceIte]
 ·rintro k ⟨hk,hno⟩;refine AZ ?_;refine cD ?_ ?_<;>intro h1<;>simp (disch:=omega) only [Sh.out h1,go_sem,seval,↓reduceIte]
  ·have hk2:k<x.orders.length:=Za
   have hgk:=hg k hk2;refine hgk.useP (L:= [_]) (by rfl) ?_ (show Zx 4 (_::_::caps)=true by simp (disch:=omega) only [hc,go_sem,seval]) (by rfl);refine AZ ?_
   cases hf:f k with
   | true=> 
    have:(List.range x.orders.length).any f=true:=List.any_eq_true.2 ⟨k,List.mem_range.2 hk2,hf⟩;rw [this];refine Zi ?_;exact we
   | false =>
    refine Zi ?_;exact ⟨k+1,⟨Za,Zn.2 ⟨hno,hf⟩⟩,Za,Weak.mk (by simp (disch:=omega) only [hc,go_sem,seval])⟩
  ·have:(List.range x.orders.length).any f=false:=by
    grind
   rw [this];exact we
theorem M3 (x:Inst) (p:Pln) (R U:List Int) (o:Ord) (i:Nat) (hi:i<R.length) (hi2:i<U.length) (hl:R.length<=1048576/\U.length<=1048576) (hr:0<=nth R i/\nth R i<=1048576) (hu:0<=nth U i/\nth U i<=1048576) :
  ACalls Tryz.prog 85 [.p (.int .i64 (i:Nat)),.p (Wr o),.ptr 2 0,.ptr 3 0] (XK x p R U) fun y H'=>y= .p (.bool (decide (1<nth R i+nth U i)))/\H'=XK x p R U:=by
 refine Zd [] Tryz.func85 rfl aZ ?_;simp (disch:=omega) only [Tryz.f85,XK,Zj,Zy,go_sem,seval];refine Yw (Zi ?_);exact we
theorem M4 (x:Inst) (p:Pln) (R U:List Int) (o:Ord) (i:Nat) (hi2:i<U.length) (hl:U.length<=1048576) :
  ACalls Tryz.prog 87 [.p (.int .i64 (i:Nat)),.p (Wr o),.ptr 3 0] (XK x p R U) fun y H'=>y= .p (.bool (o.off&&decide (0<nth U i)))/\H'=XK x p R U:=by
 refine Zd [] Tryz.func87 rfl bB ?_;simp (disch:=omega) only [Tryz.f87,XK,Zj,Zy,go_sem,seval];refine gT ?_ ?_<;>intro h<;>simp (disch:=omega) only [Sh.out h,go_sem,seval,↓reduceIte]
 ·exact ⟨.p (.bool (decide (0<nth U i))),XK x p R U,Weak.mk (by simp (disch:=omega) only [XK,Zj,Zy,go_sem,seval]),by simp [],rfl⟩
 ·exact ⟨.p (.bool false),XK x p R U,Weak.mk (by simp (disch:=omega) only [XK,Zj,Zy,go_sem,seval]),by simp [],rfl⟩
theorem M5 (x:Inst) (p:Pln) (R U:List Int) (o:Ord) (i:Nat) (hi:i<R.length) (hi2:i<U.length) (hl:R.length<=1048576/\U.length<=1048576) (hr:0<=nth R i/\nth R i<=1048576) (hu:0<=nth U i/\nth U i<=1048576) :
  ACalls Tryz.prog 88 [.p (.int .i64 (i:Nat)),.p (Wr o),.ptr 2 0,.ptr 3 0] (XK x p R U) fun y H'=>y= .p (.bool (!o.off&&(decide (nth R i+nth U i=0)||(decide (0<nth U i)&&decide (o.penalty= -1)))))/\H'=XK x p R U:=by
 refine Zd [] Tryz.func88 rfl bC ?_;simp (disch:=omega) only [Tryz.f88,XK,Zj,Zy,go_sem,seval];refine Yw (Zi ?_);refine gT ?_ ?_<;>intro h1<;>simp (disch:=omega) only [Sh.out h1,go_sem,seval,↓reduceIte]
 ·refine gF ?_ ?_<;>intro h2<;>simp (disch:=omega) only [Sh.out h2,go_sem,seval,↓reduceIte]
  ·exact ⟨.p (.bool true),XK x p R U,Weak.mk (by simp (disch:=omega) only [XK,Zj,Zy,go_sem,seval]),by grind,rfl⟩
  ·refine gT ?_ ?_<;>intro h3<;>simp (disch:=omega) only [Sh.out h3,go_sem,seval,↓reduceIte]
   ·exact ⟨.p (.bool (decide (o.penalty= -1))),XK x p R U,Weak.mk (by simp (disch:=omega) only [XK,Zj,Zy,go_sem,seval]),by grind,rfl⟩
   ·exact ⟨.p (.bool false),XK x p R U,Weak.mk (by simp (disch:=omega) only [XK,Zj,Zy,go_sem,seval]),by grind,rfl⟩
 ·exact ⟨.p (.bool false),XK x p R U,Weak.mk (by simp (disch:=omega) only [XK,Zj,Zy,go_sem,seval]),by rfl,rfl⟩
end Go.Proofs.YtmbelkfkhclnkaaGreatDoor.K
