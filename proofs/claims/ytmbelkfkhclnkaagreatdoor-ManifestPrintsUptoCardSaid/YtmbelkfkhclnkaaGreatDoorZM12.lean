/- Declarations that the closing texts need, part 12: joined by tools/slim.py. -/
import Derived.Test.YtmbelkfkhclnkaaGreatDoorZM11
import Derived.Test.YtmbelkfkhclnkaaGreatDoorRows
set_option linter.unusedVariables false
set_option linter.unusedSimpArgs false
namespace Go.Proofs.YtmbelkfkhclnkaaGreatDoor.K
open Go Go.AM Go.Proofs
theorem NA : Tryz.prog.cellsOf 3=1:=Zg
theorem aU : Tryz.prog.cellsOf 4=1:=Zg
theorem Mt : Tryz.prog.cellsOf 26=2:=Zg
theorem dY : Bw Tryz.prog 26=some [(0,3),(1,4)]:=Zg
theorem Mu : Tryz.prog.cellsOf 28=4:=Zg
theorem dZ : Bw Tryz.prog 28=some [(0,3),(1,3),(2,3),(3,4)]:=Zg
theorem aS : Tryz.prog.cellsOf 29=1:=Zg
theorem aT : Tryz.prog.cellsOf 31=9:=Zg
theorem MH : Bw Tryz.prog 31=some [(0,3),(1,26),(3,3),(4,28),(8,29)]:=Zg
mutual
theorem BQ {H:Type} :(d:DataW H)->QZ d<=Rows.uptoBulk d
 | .lit l=>by cases l<;>simp [QZ,Rows.uptoBulk]
 | .nil=>by simp [QZ,Rows.uptoBulk]
 | .ptr d=>by have:=BQ d;simp only [QZ,Rows.uptoBulk];omega
 | .slice es sp=>by have:=VC es;have:=VC sp;simp only [QZ,Rows.uptoBulk];omega
 | .agg ps=>by have:=VC ps;simp only [QZ,Rows.uptoBulk];omega
 | .iface _ d=>by have:=BQ d;simp only [QZ,Rows.uptoBulk];omega
 | .map es=>by simp only [QZ,Rows.uptoBulk];omega
 | .held h=>by simp [QZ,Rows.uptoBulk]
theorem VC {H:Type} :(l:List (DataW H))->WM l<=Rows.uptoBulkAll l
 | []=>by simp [WM,Rows.uptoBulkAll]
 | d::r=>by have:=BQ d;have:=VC r;simp only [WM,Rows.uptoBulkAll];omega
end
theorem CC {H:Type} {l:List (DataW H)} (h:Rows.uptoSmall H l=true):WM l<=1048576:=by
 have h1:=VC l;have h2:Rows.uptoBulkAll l<=1048576:=of_decide_eq_true h;omega
abbrev E9 (n:Int):Prop:= -9223372036854775808<=n/\n<=9223372036854775807
def eI (n:Int):PV:= .int .i64 n
def eB (b:Bool):PV:= .bool b
def eS (s:List UInt8):PV:= .str s
def eP (p:Int×Int):PV:= .agg [.int .i64 p.1,.int .i64 p.2]
@[go_sem] theorem aX (n:Int):eI n= .int .i64 n:=Eq.trans rfl rfl
@[go_sem] theorem qT (b:Bool):eB b= .bool b:=Eq.trans rfl rfl
@[go_sem] theorem qV (s:List UInt8):eS s= .str s:=Eq.trans rfl rfl
@[go_sem] theorem qU (p:Int×Int):eP p= .agg [.int .i64 p.1,.int .i64 p.2]:=Eq.trans rfl rfl
@[go_sem] theorem iB (l:List Bool):U4 1 (l.map eB)=true:=Vx (f:=eB) (S:=1) (fun _=>rfl) l
theorem FX {B xs} (h: ∀y∈xs,FitV Tryz.prog B 3 y): ∃l:List Int,xs=l.map eI/\ ∀n∈l,E9 n :=
 Kz (f:=eI) fun y hy=>by
  obtain ⟨n,rfl,w⟩:=IJ Tryz.underlying3 (h y hy);exact ⟨n,rfl,Vq w⟩
theorem mR {α:Type} {l:List α} (h:l.length=2): ∃a0 a1,l= [a0,a1]:=by
 match l,h with | [a0,a1],_=>simp
theorem mS {α:Type} {l:List α} (h:l.length=4): ∃a0 a1 a2 a3,l= [a0,a1,a2,a3]:=by
 match l,h with | [a0,a1,a2,a3],_=>simp
structure Pt where
 t:Int
 a:Int
 deriving Inhabited
def Ec (x:Pt):PV:= .agg [.int .i64 x.t,.int .i64 x.a]
@[go_sem] theorem lT (x:Pt):Ec x= .agg [.int .i64 x.t,.int .i64 x.a]:=Eq.trans rfl rfl
structure Arc where
 src:Int
 dst:Int
 prof:Int
 miles:Int
 travel_c:Bool
 travel:List (Pt)
 slow_c:Bool
 slow:List (Pt)
 deriving Inhabited
def VD (x:Arc):PV:= .agg [.int .i64 x.src,.int .i64 x.dst,.int .i64 x.prof,.int .i64 x.miles,.list x.travel_c (x.travel.map Ec),.list x.slow_c (x.slow.map Ec)]
@[go_sem] theorem iK (x:Arc):VD x= .agg [.int .i64 x.src,.int .i64 x.dst,.int .i64 x.prof,.int .i64 x.miles,.list x.travel_c (x.travel.map Ec),.list x.slow_c (x.slow.map Ec)]:=Eq.trans rfl rfl
structure Net where
 places_c:Bool
 places:List (List UInt8)
 arcs_c:Bool
 arcs:List (Arc)
 deriving Inhabited
def IB (x:Net):PV:= .agg [.list x.places_c (x.places.map eS),.list x.arcs_c (x.arcs.map VD)]
@[go_sem] theorem iM (x:Net):IB x= .agg [.list x.places_c (x.places.map eS),.list x.arcs_c (x.arcs.map VD)]:=Eq.trans rfl rfl
structure Typ where
 name:List UInt8
 count:Int
 src:Int
 dst:Int
 cap_c:Bool
 cap:List (Int)
 skills:Int
 prof:Int
 opn:Int
 cls:Int
 drive:Int
 rest:Int
 fixed:Int
 perMile:Int
 perTick:Int
 deriving Inhabited
def Q7 (x:Typ):PV:= .agg [.str x.name,.int .i64 x.count,.int .i64 x.src,.int .i64 x.dst,.list x.cap_c (x.cap.map eI),.int .i64 x.skills,.int .i64 x.prof,.int .i64 x.opn,.int .i64 x.cls,.int .i64 x.drive,.int .i64 x.rest,.int .i64 x.fixed,.int .i64 x.perMile,.int .i64 x.perTick]
@[go_sem] theorem iX (x:Typ):Q7 x= .agg [.str x.name,.int .i64 x.count,.int .i64 x.src,.int .i64 x.dst,.list x.cap_c (x.cap.map eI),.int .i64 x.skills,.int .i64 x.prof,.int .i64 x.opn,.int .i64 x.cls,.int .i64 x.drive,.int .i64 x.rest,.int .i64 x.fixed,.int .i64 x.perMile,.int .i64 x.perTick]:=Eq.trans rfl rfl
structure Stp where
 place:Int
 opn:Int
 cls:Int
 serv:Int
 deriving Inhabited
def BS (x:Stp):PV:= .agg [.int .i64 x.place,.int .i64 x.opn,.int .i64 x.cls,.int .i64 x.serv]
@[go_sem] theorem iT (x:Stp):BS x= .agg [.int .i64 x.place,.int .i64 x.opn,.int .i64 x.cls,.int .i64 x.serv]:=Eq.trans rfl rfl
structure Ord where
 name:List UInt8
 load_c:Bool
 load:List (Int)
 pick:Stp
 drp:Stp
 skills:Int
 penalty:Int
 split:Int
 last:Int
 now:Int
 off:Bool
 deriving Inhabited
def VE (x:Ord):PV:= .agg [.str x.name,.list x.load_c (x.load.map eI),.int .i64 x.pick.place,.int .i64 x.pick.opn,.int .i64 x.pick.cls,.int .i64 x.pick.serv,.int .i64 x.drp.place,.int .i64 x.drp.opn,.int .i64 x.drp.cls,.int .i64 x.drp.serv,.int .i64 x.skills,.int .i64 x.penalty,.int .i64 x.split,.int .i64 x.last,.int .i64 x.now,.bool x.off]
@[go_sem] theorem iN (x:Ord):VE x= .agg [.str x.name,.list x.load_c (x.load.map eI),.int .i64 x.pick.place,.int .i64 x.pick.opn,.int .i64 x.pick.cls,.int .i64 x.pick.serv,.int .i64 x.drp.place,.int .i64 x.drp.opn,.int .i64 x.drp.cls,.int .i64 x.drp.serv,.int .i64 x.skills,.int .i64 x.penalty,.int .i64 x.split,.int .i64 x.last,.int .i64 x.now,.bool x.off]:=Eq.trans rfl rfl
structure Inst where
 net:Net
 types_c:Bool
 types:List (Typ)
 orders_c:Bool
 orders:List (Ord)
 apart_c:Bool
 apart:List (Int×Int)
 before_c:Bool
 before:List (Int×Int)
 deriving Inhabited
def XQ (x:Inst):PV:= .agg [.list x.net.places_c (x.net.places.map eS),.list x.net.arcs_c (x.net.arcs.map VD),.list x.types_c (x.types.map Q7),.list x.orders_c (x.orders.map VE),.list x.apart_c (x.apart.map eP),.list x.before_c (x.before.map eP)]
@[go_sem] theorem aY (x:Inst):XQ x= .agg [.list x.net.places_c (x.net.places.map eS),.list x.net.arcs_c (x.net.arcs.map VD),.list x.types_c (x.types.map Q7),.list x.orders_c (x.orders.map VE),.list x.apart_c (x.apart.map eP),.list x.before_c (x.before.map eP)]:=Eq.trans rfl rfl
structure Vis where
 order:Int
 drp:Bool
 deriving Inhabited
def aR (x:Vis):List PV:= [.int .i64 x.order,.bool x.drp]
def Xb (x:Vis):PV:= .agg [.int .i64 x.order,.bool x.drp]
@[go_sem] theorem ID (x:Vis):Xb x= .agg [.int .i64 x.order,.bool x.drp]:=Eq.trans rfl rfl
@[go_sem] theorem RE (l:List Vis):U4 2 (l.map Xb)=true:=Vx (f:=Xb) (S:=2) (fun _=>rfl) l
def Vis.wf (B:Nat) (x:Vis):Prop:=E9 x.order
theorem F1 {B m cs} (h:XJ Tryz.prog B m 26 cs): ∃x:Vis,cs=aR x/\x.wf B:=by
 obtain ⟨h1,m',h2⟩:=Qi dY Mt h;obtain ⟨a0,a1,rfl⟩:=mR h1;obtain ⟨n0,e0,w0⟩:=Yz Tryz.underlying3 (h2 (0,3) Zb);obtain ⟨n1,e1⟩:=Jq Tryz.underlying4 (h2 (1,4) Zb);simp [aU,NA] at e0 e1;subst e0;subst e1;exact ⟨⟨n0,n1⟩,rfl,Vq w0⟩
structure Rte where
 typ:Int
 start:Int
 rests_c:Bool
 rests:List (Bool)
 visits_c:Bool
 visits:List (Vis)
 deriving Inhabited
def Vo (x:Rte):PV:= .agg [.int .i64 x.typ,.int .i64 x.start,.list x.rests_c (x.rests.map eB),.list x.visits_c (x.visits.map Xb)]
@[go_sem] theorem iQ (x:Rte):Vo x= .agg [.int .i64 x.typ,.int .i64 x.start,.list x.rests_c (x.rests.map eB),.list x.visits_c (x.visits.map Xb)]:=Eq.trans rfl rfl
structure Tim where
 arr:Int
 beg:Int
 dep:Int
 rest:Bool
 deriving Inhabited
def aQ (x:Tim):List PV:= [.int .i64 x.arr,.int .i64 x.beg,.int .i64 x.dep,.bool x.rest]
def eTim (x:Tim):PV:= .agg [.int .i64 x.arr,.int .i64 x.beg,.int .i64 x.dep,.bool x.rest]
@[go_sem] theorem iU (x:Tim):eTim x= .agg [.int .i64 x.arr,.int .i64 x.beg,.int .i64 x.dep,.bool x.rest]:=Eq.trans rfl rfl
@[go_sem] theorem dR (l:List Tim):Q1 4 (l.map eTim)=true:=Dr fun _=>rfl
def Tim.wf (B:Nat) (x:Tim):Prop:=E9 x.arr/\E9 x.beg/\E9 x.dep
theorem FZ {B m cs} (h:XJ Tryz.prog B m 28 cs): ∃x:Tim,cs=aQ x/\x.wf B:=by
 obtain ⟨h1,m',h2⟩:=Qi dZ Mu h;obtain ⟨a0,a1,a2,a3,rfl⟩:=mS h1;obtain ⟨n0,e0,w0⟩:=Yz Tryz.underlying3 (h2 (0,3) Zb);obtain ⟨n1,e1,w1⟩:=Yz Tryz.underlying3 (h2 (1,3) Zb);obtain ⟨n2,e2,w2⟩:=Yz Tryz.underlying3 (h2 (2,3) Zb);obtain ⟨n3,e3⟩:=Jq Tryz.underlying4 (h2 (3,4) Zb);simp [aU,NA] at e0 e1 e2 e3;subst e0;subst e1;subst e2;subst e3;exact ⟨⟨n0,n1,n2,n3⟩,rfl,Vq w0,Vq w1,Vq w2⟩
structure She where
 rest:Bool
 dep:Int
 times_c:Bool
 times:List (Tim)
 fin:Int
 miles:Int
 deriving Inhabited
def BR (x:She):PV:= .agg [.bool x.rest,.int .i64 x.dep,.list x.times_c (x.times.map eTim),.int .i64 x.fin,.int .i64 x.miles]
@[go_sem] theorem iS (x:She):BR x= .agg [.bool x.rest,.int .i64 x.dep,.list x.times_c (x.times.map eTim),.int .i64 x.fin,.int .i64 x.miles]:=Eq.trans rfl rfl
structure Sco where
 cost:Int
 moved:Int
 other:Int
 work:Int
 deriving Inhabited
def IC (x:Sco):PV:= .agg [.int .i64 x.cost,.int .i64 x.moved,.int .i64 x.other,.int .i64 x.work]
@[go_sem] theorem iR (x:Sco):IC x= .agg [.int .i64 x.cost,.int .i64 x.moved,.int .i64 x.other,.int .i64 x.work]:=Eq.trans rfl rfl
structure Pln where
 routes_c:Bool
 routes:List (Rte)
 unserved_c:Bool
 unserved:List (Int)
 deriving Inhabited
def Eb (x:Pln):PV:= .agg [.list x.routes_c (x.routes.map Vo),.list x.unserved_c (x.unserved.map eI)]
@[go_sem] theorem iO (x:Pln):Eb x= .agg [.list x.routes_c (x.routes.map Vo),.list x.unserved_c (x.unserved.map eI)]:=Eq.trans rfl rfl
theorem own : ownKnob Tryz.prog.godebug=none:=Zg
theorem IW : laidOutB Tryz.prog=true:=Zg
abbrev Flt := Int×List UInt8
def dec (n:Nat):List UInt8:=if h:n<10 then [UInt8.ofNat (48+n)] else dec (n / 10)++ [UInt8.ofNat (48+n%10)]
termination_by n
decreasing_by omega
theorem Qd : ∀(d n:Nat),n<10^(d+1)->(dec n).length<=d+1:=by
 intro d
 induction d with
 | zero=>simp_all [dec]
 | succ d ih =>
  grind [dec]
def X7 (n:Int):List UInt8:=if n<0 then 45::dec n.natAbs else dec n.natAbs
theorem ZS (n:Int) (h:E9 n):(X7 n).length<=20:=by
 have h1:n.natAbs<10^(18+1):=Za
 have:=Qd 18 n.natAbs h1
 grind [X7]
theorem ZF {p:Nat->Prop} {k:Nat} :(∀j,j<k+1->p j)↔((∀j,j<k->p j)/\p k) :=
 ⟨fun h=>⟨fun j hj=>h j Za,h k Za⟩,fun h j hj=>by
  grind⟩
def UQ (c:UInt8):Bool:=decide (48<=c.toNat/\c.toNat<=57)
def Qq (c:UInt8):Bool:=decide (97<=c.toNat/\c.toNat<=122)||decide (65<=c.toNat/\c.toNat<=90)||decide (c.toNat=95)
def nameOk (s:List UInt8):Bool:=decide (1<=s.length)&&decide (s.length<=16)&& !UQ (nth s 0)&&s.all fun c=>Qq c||UQ c
def rng (n lo hi:Int):Bool:=decide (lo<=n/\n<=hi)
def P4 (n:Int):Bool:=rng n 0 4096
def PG (l:List Pt) (i:Nat):Prop:=(0<=(nth l i).t/\(nth l i).t<=4096/\(nth l i).t<=(nth l i).a/\(nth l i).a<=(nth l i).t+4096)/\(0<i->(nth l (i-1)).t<(nth l i).t/\(nth l (i-1)).a<=(nth l i).a)
def YD (l:List Pt):Prop:=(1<=l.length/\l.length<=16)/\ ∀i,i<l.length->PG l i
def KG (l:List Pt) (i:Nat):Prop:=P4 (nth l i).t=true/\P4 (nth l i).a=true/\(0<i->(nth l (i-1)).t<(nth l i).t)
def CU (n:Net) (i:Nat):Prop :=
 ((((((0<=(nth n.arcs i).src/\(nth n.arcs i).src<n.places.length/\0<=(nth n.arcs i).dst/\(nth n.arcs i).dst<n.places.length) /\
 (0<=(nth n.arcs i).prof/\(nth n.arcs i).prof<=7/\0<=(nth n.arcs i).miles/\(nth n.arcs i).miles<=10000/\(nth n.arcs i).src≠(nth n.arcs i).dst)) /\
 (∀k,k<i-> ¬((nth n.arcs i).src=(nth n.arcs k).src/\(nth n.arcs i).dst=(nth n.arcs k).dst/\(nth n.arcs i).prof=(nth n.arcs k).prof))) /\
 YD (nth n.arcs i).travel)/\(nth n.arcs i).slow.length<=16)/\ ∀k,k<(nth n.arcs i).slow.length->KG (nth n.arcs i).slow k)
def nI (n:Net) (i:Nat):Prop:=nameOk (nth n.places i)=true/\ ∀k,k<i->nth n.places k≠nth n.places i
def G9 (n:Net):Prop:=n.places.length<=24/\ ∀i,i<n.places.length->nI n i
def netOk (n:Net):Prop:=(G9 n/\n.arcs.length<=1024)/\ ∀i,i<n.arcs.length->CU n i
set_option maxRecDepth 8000
set_option maxHeartbeats 4000000
theorem iJ (c:UInt8):PC 120 [.p (.int .u8 (c.toNat:Nat))] (.bool (UQ c)):=by
 refine Zc Tryz.func120 rfl N1 ?_;simp (disch:=omega) only [Tryz.f120,go_sem,seval];refine gT ?_ ?_<;>intro h<;>simp (disch:=omega) only [Sh.out h,go_sem,seval,↓reduceIte]
 all_goals (simp [UQ];first | done | omega | grind)
theorem dH (c:UInt8):PC 179 [.p (.int .u8 (c.toNat:Nat))] (.bool (Qq c)):=by
 refine Zc Tryz.func179 rfl Oq ?_;simp (disch:=omega) only [Tryz.f179,go_sem,seval]
 repeat' (first | (refine gT ?_ ?_<;>intro hq<;>simp (disch:=omega) only [Sh.out hq,go_sem,seval,↓reduceIte]) | (refine gF ?_ ?_<;>intro hq<;>simp (disch:=omega) only [Sh.out hq,go_sem,seval,↓reduceIte]) | (refine J3 (fun hq=> ?_) (fun hq=> ?_)<;>(try simp only [decide_eq_true_eq,decide_eq_false_iff_not,Classical.not_not] at hq)<;>simp (disch:=omega) only [Sh.out hq,go_sem,seval]))
 all_goals (simp [Qq];first | done | omega | (rw [Bool.eq_iff_iff];simp;omega))
theorem Wd (n:Int) (hn:E9 n):PC 44 [.p (.int .i64 n)] (.str (X7 n)):=by
 refine Zc Tryz.func44 rfl cM ?_;simp (disch:=omega) only [Tryz.f44,go_sem,seval]
 have h19:n.natAbs<10^(18+1):=Za
 have hdl:=Qd 18 n.natAbs h19
 refine ZR [7] [0] (fun q:Int×List UInt8×Bool=> [(3,.p (.str q.2.1)),(4,.p (.int .i64 q.1)),(5,.p (.bool q.2.2))]) (fun _=> [])
  (fun q=>E9 q.1/\(q.2.2=true->dec q.1.natAbs++q.2.1=dec n.natAbs)/\(q.2.2=false->q.2.1=dec n.natAbs)) (fun q=>if q.2.2 then q.1.natAbs+1 else 0) (n,[],true) (by simp;omega) (Weak.mk ?_) ?_
 ·simp (disch:=omega) only [go_sem,seval,↓reduceIte]
 ·rintro ⟨m,s,again⟩ ⟨hm,h1,h2⟩;simp only at hm h1 h2;refine Zj ?_
  cases again with
  | false =>
   refine Zj ?_;have h2:=h2 rfl
   have hl2:([45]:List UInt8).length+(dec n.natAbs).length<=9223372036854775807:=by simp;omega
   refine cD ?_ ?_<;>intro h3<;>simp (disch:=omega) only [Sh.out h3,go_sem,seval]
   ·simp (disch:=omega) only [X7,h2,h3,Xr hl2,go_sem,seval,↓reduceIte]
   ·simp (disch:=omega) only [X7,h2,h3,go_sem,seval,↓reduceIte]
  | true =>
   have h1:=h1 rfl
   have hls:(dec m.natAbs).length+s.length=(dec n.natAbs).length:=by grind
   refine Zj ?_
   have e1:(m.tmod 10).natAbs=m.natAbs%10:=Zb
   have e2:(m.tdiv 10).natAbs=m.natAbs / 10:=by grind
   have e3:m.tmod 10<10/\ -10<m.tmod 10:=⟨Int.tmod_lt_of_pos _ (by decide),Za⟩;refine XZ [0,3,4] (fun _:Unit=> [(6,.p (.int .i64 ((m.natAbs%10:Nat):Int)))]) (fun _=> []) (fun _=>True) ?_ ?_
   ·refine Zj ?_;refine cD ?_ ?_<;>intro h3<;>simp (disch:=omega) only [Sh.out h3,go_sem,seval,↓reduceIte]
    ·exact ⟨(),Weak.mk (by refine Zj ?_;simp;omega)⟩
    ·exact ⟨(),Weak.mk (by refine Zj ?_;simp;omega)⟩
   ·intro _ _;refine Zd [] _ _ _ _ ?_;simp (disch:=first | omega | (simp only [List.length_cons,List.length_nil,List.length_append,List.length_map,List.length_take,List.length_drop]<;>omega)) only [go_sem,seval,↓reduceIte]
    have e4:(48+((m.natAbs%10:Nat):Int)).toNat=48+m.natAbs%10:=Za
    refine ⟨(m.tdiv 10,UInt8.ofNat (48+m.natAbs%10)::s,decide (m.tdiv 10≠0)),⟨?_,?_,?_⟩,?_,Weak.mk ?_⟩
    ·omega
    ·simp only [decide_eq_true_eq];intro hne
     have h10: ¬m.natAbs<10:=Za
     rw [e2,<- h1,dec.eq_def m.natAbs,dif_neg h10];simp
    ·simp only [decide_eq_false_iff_not,Classical.not_not];intro hz
     have h10:m.natAbs<10:=Za
     rw [<- h1,dec.eq_def m.natAbs,dif_pos h10,Nat.mod_eq_of_lt h10];simp
    ·grind
    ·simp (disch:=omega) only [e4,go_sem,seval]
set_option maxHeartbeats 8000000
def Pp (n:Net):List AM.Obj:= [.cells [.p (.list n.places_c (n.places.map eS)),.p (.list n.arcs_c (n.arcs.map VD))]]
set_option maxHeartbeats 16000000
def DU (a:Arc):AM.Obj:= .cells [.p (.int .i64 a.src),.p (.int .i64 a.dst),.p (.int .i64 a.prof),.p (.int .i64 a.miles),.p (.list a.travel_c (a.travel.map Ec)),.p (.list a.slow_c (a.slow.map Ec))]
theorem Xh {α:Type} [Inhabited α] {l:List α} {i:Nat} (h:i<l.length):nth l i∈l:=by grind [Zh]
end Go.Proofs.YtmbelkfkhclnkaaGreatDoor.K
namespace Go.Proofs.YtmbelkfkhclnkaaGreatDoor.K
section
variable {L : Type} (fin : L -> Int) (beats : L -> L -> Bool) (nxt : Nat -> L -> Bool -> Option L) (choices : Nat -> List Bool)
def Yp : Option L->List L->Option L
 | b,[]=>b
 | none,x::l=>Yp (some x) l
 | some m,x::l=>if fin x<fin m then Yp (some x) l else Yp (some m) l
theorem W6 : ∀(b:Option L) (l r:List L),Yp fin b (l++r)=Yp fin (Yp fin b l) r
 | b,[],r=>by rfl
 | none,x::l,r=>by rw [List.cons_append,Yp,Yp,W6]
 | some m,x::l,r=>by
  rw [List.cons_append,Yp,Yp]
  split
  ·rw [W6]
  ·rw [W6]
theorem Y1 : ∀(l:List L) (m:L),∃z,Yp fin (some m) l=some z/\fin z<=fin m/\ ∀y∈l,fin z<=fin y
 | [],m=>⟨m,rfl,Za,Zb⟩
 | x::l,m=>by
  rw [Yp]
  split
  ·rename_i h;obtain ⟨z,e,h1,h2⟩:=Y1 l x
   grind
  ·rename_i h;obtain ⟨z,e,h1,h2⟩:=Y1 l m
   grind
theorem An : ∀(l:List L) (m:L),(∀y∈l,fin m<=fin y)->Yp fin (some m) l=some m
 | [],m,_=>rfl
 | x::l,m,h=>by
  have:=h x List.mem_cons_self;rw [Yp,if_neg Za];exact An l m fun y hy=>h y (List.mem_cons_of_mem _ hy)
theorem Eh (A B:List L) (h: ∀y∈B,∃z∈A,fin z<=fin y):Yp fin none (A++B)=Yp fin none A:=by
 rw [W6]
 cases A with
 | nil=>cases B with
  | nil=>rfl
  | cons y B=>grind [List.mem_cons_self]
 | cons a A =>
  rw [Yp];obtain ⟨z,e,h1,h2⟩:=Y1 fin A a;rw [e];refine An fin B z fun y hy=> ?_
  grind
def ZL : List L->List L->List L
 | out,[]=>out
 | out,x::l=>if out.any (fun m=>beats m x)=true then ZL out l else ZL (out++ [x]) l
theorem Ug {R:L->List L} : ∀(c out:List L),(∀x∈out++c,∀m∈out++c,beats m x=true-> ∀y∈R x,∃z∈R m,fin z<=fin y)->Yp fin none ((ZL beats out c).flatMap R)=Yp fin none ((out++c).flatMap R)
 | [],out,_=>by simp [ZL]
 | x::c,out,h=>by
  rw [ZL]
  split
  ·rename_i hb;obtain ⟨m,hm,hb⟩:=List.any_eq_true.1 hb
   have hb:beats m x=true:=by simpa using hb
   rw [Ug c out (fun a ha b hb=>h a (by simp only [List.mem_append,List.mem_cons] at ha ⊢;rcases ha with h | h<;>simp [h]) b (by simp only [List.mem_append,List.mem_cons] at hb ⊢;rcases hb with h | h<;>simp [h]))];rw [List.flatMap_append,List.flatMap_append,List.flatMap_cons,<- List.append_assoc,W6,W6 (l:=out.flatMap R++R x)];rw [Eh fin (out.flatMap R) (R x)];intro y hy;obtain ⟨z,hz,hle⟩:=h x Zb m (by simp [hm]) hb y hy;exact ⟨z,List.mem_flatMap.2 ⟨m,hm,hz⟩,hle⟩
  ·rw [Ug c (out++ [x]) (by simpa using h)];simp
theorem Va : ∀(c out:List L),∀x∈ZL beats out c,x∈out++c
 | [],out,x,h=>by grind [ZL]
 | a::c,out,x,h=>by
  rw [ZL] at h
  split at h
  ·have:=Va c out x h;simp only [List.mem_append,List.mem_cons] at this ⊢;rcases this with h | h<;>simp [h]
  ·have:=Va c (out++ [a]) x h;simpa using this
def Km : Nat->Nat->List (List Bool)
 | 0,_=> [[]]
 | j+1,k=>(choices k).flatMap fun b=>(Km j (k+1)).map (b:: ·)
def Wj : Nat->L->List Bool->Option L
 | _,x,[]=>some x
 | k,x,b::bs=>match nxt k x b with
  | some y=>Wj (k+1) y bs
  | none=>none
def XN (j k:Nat) (x:L):List L:=(Km choices j k).filterMap (Wj nxt k x)
def XG (k:Nat) (l:List L):List L:=l.flatMap fun x=>(choices k).filterMap (nxt k x)
def Ws : Nat->Nat->List L->List L
 | 0,_,l=>l
 | j+1,k,l=>Ws j (k+1) (ZL beats [] (XG nxt choices k l))
theorem Cn (k:Nat) (x:L):XN nxt choices 0 k x= [x]:=rfl
theorem QL (j k:Nat) (x:L):XN nxt choices (j+1) k x=((choices k).filterMap (nxt k x)).flatMap (XN nxt choices j (k+1)):=by
 unfold XN;rw [Km]
 induction choices k with
 | nil=>rfl
 | cons b bs ih =>
  rw [List.flatMap_cons,List.filterMap_append,ih,List.filterMap_cons]
  cases h:nxt k x b with
  | none =>
   simp_all [Wj]
  | some y =>
   rw [List.filterMap_map]
   have:(Wj nxt k x∘fun l=>b::l)=Wj nxt (k+1) y:=by grind [Wj]
   grind
theorem JO {n:Nat} {Inv:Nat->L->Prop} (hI: ∀k x b y,Inv k x->nxt k x b=some y->Inv (k+1) y) (hd: ∀k m x b y,Inv k m->Inv k x->beats m x=true->nxt k x b=some y-> ∃z,nxt k m b=some z/\beats z y=true)
  (he: ∀m x,Inv n m->Inv n x->beats m x=true->fin m<=fin x): ∀(j k:Nat) (m x:L),k+j=n->Inv k m->Inv k x->beats m x=true-> ∀y∈XN nxt choices j k x,∃z∈XN nxt choices j k m,fin z<=fin y
 | 0,k,m,x,hk,h1,h2,hb,y,hy=>by
  grind [Cn]
 | j+1,k,m,x,hk,h1,h2,hb,y,hy=>by
  rw [QL] at hy ⊢;obtain ⟨q,hq,hy⟩:=List.mem_flatMap.1 hy;obtain ⟨b,hbm,hn⟩:=List.mem_filterMap.1 hq;obtain ⟨z,hz,hzb⟩:=hd k m x b q h1 h2 hb hn;obtain ⟨u,hu,hle⟩:=JO hI hd he j (k+1) z q Za (hI k m b z h1 hz) (hI k x b q h2 hn) hzb y hy
  grind
theorem Dj {n:Nat} {Inv:Nat->L->Prop} (hI: ∀k x b y,Inv k x->nxt k x b=some y->Inv (k+1) y) (hd: ∀k m x b y,Inv k m->Inv k x->beats m x=true->nxt k x b=some y-> ∃z,nxt k m b=some z/\beats z y=true)
  (he: ∀m x,Inv n m->Inv n x->beats m x=true->fin m<=fin x): ∀(j k:Nat) (l:List L),k+j=n->(∀x∈l,Inv k x)->Yp fin none (Ws beats nxt choices j k l)=Yp fin none (l.flatMap (XN nxt choices j k))
 | 0,k,l,hk,hl=>by
  have:l.flatMap (XN nxt choices 0 k)=l:=by
   have:XN nxt choices 0 k=fun x=> [x]:=by rfl
   rw [this];simp
  rw [this];rfl
 | j+1,k,l,hk,hl=>by
  have hc: ∀x∈XG nxt choices k l,Inv (k+1) x:=fun x hx=>by
   obtain ⟨q,hq,hx⟩:=List.mem_flatMap.1 hx
   grind
  have e:l.flatMap (XN nxt choices (j+1) k)=(XG nxt choices k l).flatMap (XN nxt choices j (k+1)):=by
   rw [XG,List.flatMap_assoc]
   congr 1
   grind [QL]
  rw [Ws,Dj hI hd he j (k+1) _ Za (fun x hx=>hc x (by simpa using Va beats _ _ x hx)),Ug fin beats _ _ (fun x hx m hm hb y hy=> ?_),e]
  ·simp
  ·exact JO fin beats nxt choices hI hd he j (k+1) m x Za (hc m (by grind)) (hc x (by grind)) hb y hy
def Xn : List Bool->List (List Bool)
 | []=> [[]]
 | b::bs=>if b then (Xn bs).map (true:: ·) else (Xn bs).map (false:: ·)++(Xn (List.replicate bs.length false)).map (true:: ·)
termination_by l => l.length
decreasing_by all_goals simp
def WU : List Bool->Option (List Bool)
 | []=>none
 | b::bs=>match WU bs with
  | some l=>some (b::l)
  | none=>if b then none else some (true::List.replicate bs.length false)
theorem Wg : ∀l:List Bool,Xn l=l::(match WU l with | some r=>Xn r | none=> [])
 | []=>by simp [Xn,WU]
 | b::bs=>by
  have ih:=Wg bs
  have e0: ∀l:List Bool,Xn (true::l)=(Xn l).map (true:: ·):=fun l=>by rw [Xn];simp
  have e1: ∀l:List Bool,Xn (false::l)=(Xn l).map (false:: ·)++(Xn (List.replicate l.length false)).map (true:: ·):=fun l=>by rw [Xn];simp
  cases b with
  | true =>
   rw [e0,ih,WU]
   cases h:WU bs with
   | none=>simp
   | some r=>simp [e0]
  | false =>
   rw [e1,ih,WU]
   cases h:WU bs with
   | none=>simp [e0]
   | some r =>
    have hl:r.length=bs.length:=nlen bs r h;simp [e1,hl]
where nlen : ∀(l r:List Bool),WU l=some r->r.length=l.length
 | [],r,h=>by simp [WU] at h
 | b::bs,r,h=>by
  rw [WU] at h
  cases h2:WU bs with
  | none =>
   grind
  | some q =>
   rw [h2] at h;simp at h;subst h;simp [nlen bs q h2]
theorem Aj {n:Nat} : ∀(j k:Nat),(∀q,k<=q->choices q= [false,true])->Km choices j k=Xn (List.replicate j false)
 | 0,k,_=>by simp [Km,Xn]
 | j+1,k,h=>by
  rw [Km,h k (Nat.le_refl _),Aj (n:=n) j (k+1) (fun q hq=>h q Za),List.replicate_succ,Xn];simp
end
end Go.Proofs.YtmbelkfkhclnkaaGreatDoor.K
namespace Go.Proofs.YtmbelkfkhclnkaaGreatDoor.K
open Go Go.AM Go.Proofs
def Zk (x:Inst):AM.Obj:= .cells [.p (.list x.net.places_c (x.net.places.map eS)),.p (.list x.net.arcs_c (x.net.arcs.map VD)),.p (.list x.types_c (x.types.map Q7)),.p (.list x.orders_c (x.orders.map VE)),.p (.list x.apart_c (x.apart.map eP)),.p (.list x.before_c (x.before.map eP))]
def zSco : Sco:=⟨0,0,0,0⟩
set_option maxRecDepth 8000
set_option maxHeartbeats 16000000
def FF (l:List Int) (d:Int):Bool:=rng l.length 1 3&&decide ((l.length:Int)=d)&&l.all fun n=>rng n 0 1000
def dimsOf (l:List Typ):Int:=if l.length=0 then 0 else ((nth l 0).cap.length:Int)
def P9 (t:Typ):AM.Obj:= .cells [.p (.str t.name),.p (.int .i64 t.count),.p (.int .i64 t.src),.p (.int .i64 t.dst),.p (.list t.cap_c (t.cap.map eI)),.p (.int .i64 t.skills),.p (.int .i64 t.prof),.p (.int .i64 t.opn),.p (.int .i64 t.cls),.p (.int .i64 t.drive),.p (.int .i64 t.rest),.p (.int .i64 t.fixed),.p (.int .i64 t.perMile),.p (.int .i64 t.perTick)]
def DG (n:Net) (l:List Typ) (i:Nat):Prop:=((((((((nameOk (nth l i).name=true)/\(∀j,j<i->(nth l j).name≠(nth l i).name))/\rng (nth l i).count 0 10=true)/\(rng (nth l i).src 0 (n.places.length-1)=true/\rng (nth l i).dst 0 (n.places.length-1)=true))/\FF (nth l i).cap (dimsOf l)=true)/\rng (nth l i).skills 0 1073741823=true)/\(rng (nth l i).opn 0 (nth l i).cls=true/\(nth l i).cls<=4096))/\(rng (nth l i).drive 1 4096=true/\rng (nth l i).rest 0 4096=true))/\(rng (nth l i).prof 0 7=true/\rng (nth l i).fixed 0 100000=true/\rng (nth l i).perMile 0 100=true/\rng (nth l i).perTick 0 100=true)
def typesOk (n:Net) (l:List Typ):Prop:=rng l.length 1 6=true/\ ∀i,i<l.length->DG n l i
def loadOk (l:List Int) (d:Int):Bool:=decide ((l.length:Int)=d)&&l.all fun n=>rng n 0 1000
def stpOk (s:Stp):Bool:=decide ((s.place= -1/\s.opn=0/\s.cls=0/\s.serv=0)\/(0<=s.place/\0<=s.opn/\s.opn<=s.cls/\s.cls<=4096/\0<=s.serv/\s.serv<=4096))
def Ca (l:List Ord) (i:Nat):Bool:=(List.range i).all fun j=>decide ((nth l j).name≠(nth l i).name)
theorem AH {l:List Ord} {i:Nat} :Ca l i=true↔ ∀j,j<i->(nth l j).name≠(nth l i).name:=by simp [Ca]
def HP (b:Bool) (e:Int):List Int:=if b=true then [] else [e]
def Nz (t:Ord):Bool:=decide (t.pick.place≠ -1)&&decide (t.drp.place≠ -1)
def argOk (t:Ord) (ty:Int):Bool:=rng t.penalty (-1) 1000000&&rng t.split 1 4&&decide (¬(1<t.split/\Nz t=true)/\ -1<=t.last/\t.last<ty/\ -1<=t.now/\t.now<ty)
def QF (np:Nat) (d ty:Int) (l:List Ord) (i:Nat):List Int:=HP (nameOk (nth l i).name) 5++HP (Ca l i) 6++HP (loadOk (nth l i).load d) 17++HP ((rng (nth l i).pick.place (-1) ((np:Int)-1)&&rng (nth l i).drp.place (-1) ((np:Int)-1))) 11++HP (decide (¬((nth l i).pick.place= -1/\(nth l i).drp.place= -1))) 19++HP ((stpOk (nth l i).pick&&stpOk (nth l i).drp)) 14++HP (rng (nth l i).skills 0 1073741823) 18++HP (argOk (nth l i) ty) 2
def Dx (np:Nat) (d ty:Int) (l:List Ord) (k:Nat):List Flt:=(if l.length<=10 then [] else [(4,[])])++(List.range k).flatMap fun i=>(QF np d ty l i).map fun e=>(e,X7 i)
structure OrdOk (np:Nat) (d ty:Int) (l:List Ord) (i:Nat):Prop where
 name:nameOk (nth l i).name=true
 twin: ∀j,j<i->(nth l j).name≠(nth l i).name
 load:loadOk (nth l i).load d=true
 pick: -1<=(nth l i).pick.place/\(nth l i).pick.place<np
 drp: -1<=(nth l i).drp.place/\(nth l i).drp.place<np
 one: ¬((nth l i).pick.place= -1/\(nth l i).drp.place= -1)
 pstp:stpOk (nth l i).pick=true
 dstp:stpOk (nth l i).drp=true
 skills:0<=(nth l i).skills/\(nth l i).skills<=1073741823
 arg:argOk (nth l i) ty=true
theorem LK {b:Bool} {e:Int} :HP b e= []↔b=true:=by grind [HP]
theorem Kw {np:Nat} {d ty:Int} {l:List Ord} {i:Nat} :QF np d ty l i= []↔OrdOk np d ty l i:=by
 simp only [QF,List.append_eq_nil_iff,LK,Bool.and_eq_true,decide_eq_true_eq,rng,AH]
 constructor
 ·rintro ⟨⟨⟨⟨⟨⟨⟨a1,a2⟩,a3⟩,a4⟩,a5⟩,a6⟩,a7⟩,a8⟩;exact ⟨a1,a2,a3,Za,Za,a5,a6.1,a6.2,a7,a8⟩
 ·intro h;obtain ⟨b1,b2⟩:=h.pick;obtain ⟨b3,b4⟩:=h.drp;exact ⟨⟨⟨⟨⟨⟨⟨h.name,h.twin⟩,h.load⟩,Za,Za⟩,h.one⟩,h.pstp,h.dstp⟩,h.skills⟩,h.arg⟩
def ordersOk (np:Nat) (d ty:Int) (l:List Ord):Prop:=l.length<=10/\ ∀i,i<l.length->OrdOk np d ty l i
theorem AS {np:Nat} {d ty:Int} {l:List Ord} :Dx np d ty l l.length= []↔ordersOk np d ty l:=by
 simp_all [Dx,Kw,ordersOk]
def dS (n:Int) (p:Int×Int):Bool:=decide (0<=p.1/\p.1<n)&&decide (0<=p.2/\p.2<n)&&decide (¬p.1=p.2)
def qP (word:List UInt8) (i:Nat):List UInt8:=word++ [32]++dec i
def qY (n:Int) (word:List UInt8) (sm:Int×Int->Int×Int->Bool) (l:List (Int×Int)) (i:Nat):List (Int×List UInt8) :=
 if dS n (nth l i)=false then [(2,qP word i)] else if (l.take i).any (sm (nth l i)) then [(6,qP word i)] else []
def mK (word:List UInt8) (l:List (Int×Int)):List (Int×List UInt8):=if 16<l.length then [(4,word)] else []
def NO (n:Int) (word:List UInt8) (sm:Int×Int->Int×Int->Bool) (l:List (Int×Int)) (k:Nat):List (Int×List UInt8):=mK word l++(List.range k).flatMap (qY n word sm l)
def chk (n:Int) (ap be:List (Int×Int)):List (Int×List UInt8) :=
 NO n [97,112,97,114,116] (fun p q=>decide (p=q\/(p.1=q.2/\p.2=q.1))) ap ap.length++NO n [98,101,102,111,114,101] (fun p q=>decide (p=q)) be be.length
@[go_sem] theorem RM {H:List AM.Obj} {β:Type} {S b o n:Nat} {xs:List PV} {g:β->PV} {m:List β} (hb:(n+m.length)*b<=140737488355328) (hb2:n+m.length<=140737488355328) :
  YW H (some (S,b)) (.elems S xs) o n (some (m.map g))=if xs.length=n/\Q1 S (m.map g)=true then some (.sl o 0 (n+m.length) (n+m.length),Q2 H o (.elems S (xs++m.map g))) else none:=by
 simp_all [Fs]
structure InstOk (x:Inst):Prop where
 net:netOk x.net
 types:typesOk x.net x.types
 orders:ordersOk x.net.places.length (dimsOf x.types) x.types.length x.orders
 rules:chk x.orders.length x.apart x.before= []
theorem HT (a:Int):IntKind.i64.wrap ((BitVec.ofInt 64 a&&&BitVec.ofInt 64 1).toNat:Int)=a%2:=by
 grind [BitVec.toNat_ofInt,IntWalk.i64_in]
def Je (s i:Int):Bool:=decide (0<=i)&&decide (i<=62)&&decide (s.fdiv (2^i.toNat)%2=1)
theorem bL (s i:Int):PC 226 [.p (.int .i64 s),.p (.int .i64 i)] (.bool (Je s i)):=by
 refine Zc Tryz.func226 rfl OZ ?_;simp (disch:=omega) only [Tryz.f226,go_sem,seval];refine gT ?_ ?_<;>intro h<;>simp (disch:=omega) only [Sh.out h,go_sem,seval,↓reduceIte]
 ·refine gT ?_ ?_<;>intro h1<;>simp (disch:=omega) only [Sh.out h1,go_sem,seval,↓reduceIte]
  ·have:min i.toNat 64=i.toNat:=Za
   rw [this]
   erw [HT]
   simp [Je,h,h1]
  grind [Je]
 ·simp [Je,h]
def Xf (s:Int) (k:Nat):List Int:=((List.range k).filter fun (i:Nat)=>Je s (i:Int)).map fun (i:Nat)=>(i:Int)
theorem Ez (s:Int):Xf s 0= []:=by simp [Xf]
theorem GF {s:Int} {k:Nat} (h:Je s (k:Int)=true):Xf s (k+1)=Xf s k++ [(k:Int)]:=by grind [Xf,List.range_succ]
theorem I1 {s:Int} {k:Nat} (h:Je s (k:Int)=false):Xf s (k+1)=Xf s k:=by grind [Xf,List.range_succ]
theorem AD (s:Int) (k:Nat):(Xf s k).length<=k:=by
 grind [Xf]
theorem EA (s:Int):ACalls Tryz.prog 196 [.p (.int .i64 s)] [] fun x H'=>x= .sl 0 0 (Xf s 63).length (Xf s 63).length/\H'= [.elems 1 ((Xf s 63).map eI)]:=by
 refine J2 (fn:=Tryz.f196) Zb Tryz.func196 rfl OI ?_;simp (disch:=omega) only [Tryz.f196,go_sem,seval];refine Zn [0] (fun k:Nat=> [(3,.sl 0 0 (Xf s k).length (Xf s k).length),(5,.p (.int .i64 k))]) (fun k=> [.elems 1 ((Xf s k).map eI)]) (fun k=>k<=63) (fun k=>63-k) 0 Zb (Weak.ofNil 3 1 (by simp (disch:=omega) only [go_sem,seval]) Zb (Weak.mk ?_)) ?_
 ·simp (disch:=omega) only [Ez,go_sem,seval,↓reduceIte]
 ·intro k hk;have hl:=AD s k;refine Zj ?_;refine cD ?_ ?_<;>intro h<;>simp (disch:=omega) only [Sh.out h,go_sem,seval,↓reduceIte]
  ·refine (bL s k).use (Zj ?_);refine cD ?_ ?_<;>intro h2<;>simp (disch:=omega) only [Sh.out h2,go_sem,seval,↓reduceIte]
   ·refine ⟨k+1,Za,Za,Weak.mk ?_⟩;simp (disch:=omega) only [GF h2,go_sem,seval]
   ·exact ⟨k+1,Za,Za,Weak.mk (by simp (disch:=omega) only [I1 h2,go_sem,seval])⟩
  ·have:k=63:=Za
   subst this;exact ⟨0,by simp (disch:=omega) only [go_sem,seval]⟩
def hv (s k:Nat):Nat:=s / pw k
theorem NX (s k:Nat):s.testBit k=decide (hv s k%2=1):=by
 rw [Nat.testBit_eq_decide_div_mod_eq]
 rfl
theorem Ht (s i:Nat) (hi:i<=62):Je (s:Int) (i:Int)=s.testBit i:=by
 rw [NX,hv]
 have h1:(0:Int)<=i:=Za
 have h2:(i:Int)<=62:=Za
 simp only [Je,h1,h2,decide_true,Bool.true_and,Int.toNat_natCast]
 have e:((s:Int)).fdiv (2^i)=((s / pw i:Nat):Int):=by
  grind [pw]
 grind
theorem CT {α:Type} [Inhabited α] {l:List α} {f:α->Bool} {k:Nat} (h:k<l.length) (hf:f (nth l k)=true):l.any f=true:=by
 grind [Zh]
theorem Fp {α:Type} [Inhabited α] {l:List α} {f:α->Bool} (h: ∀j,j<l.length->f (nth l j)=false):l.any f=false:=by
 rw [List.any_eq_false];intro x hx;obtain ⟨j,hj,rfl⟩:=List.mem_iff_getElem.1 hx
 grind [Zh]
deriving instance DecidableEq for Vis
theorem Ra {v w:Vis} :v=w↔v.order=w.order/\v.drp=w.drp:=by cases v;cases w;simp
def BX (f:Vis->Bool) (l:List Vis):Int:=match l.findIdx? f with | some i=>(i:Int) | none=> -1
def vIx (l:List Vis) (v:Vis):Int:=BX (fun w=>decide (v=w)) l
theorem BY {f:Vis->Bool} {l:List Vis} {k:Nat} (hk:k<l.length) (h:f (nth l k)=true) (hno: ∀j,j<k->f (nth l j)=false):BX f l=(k:Int):=by
 have:l.findIdx? f=some k:=by
  grind [List.findIdx?_eq_some_iff_getElem,Zh]
 simp [BX,this]
theorem FT {f:Vis->Bool} {l:List Vis} (hno: ∀j,j<l.length->f (nth l j)=false):BX f l= -1:=by
 have:l.findIdx? f=none:=by
  rw [List.findIdx?_eq_none_iff];intro x hx;obtain ⟨j,hj,rfl⟩:=List.mem_iff_getElem.1 hx
  grind [Zh]
 simp [BX,this]
theorem FS {f:Vis->Bool} {l:List Vis} :decide (0<=BX f l)=l.any f:=by
 grind [BX]
theorem NN {f:Vis->Bool} {l:List Vis} :BX f l<l.length/\ -1<=BX f l:=by
 grind [BX,List.findIdx?_eq_some_iff_getElem]
theorem WK {P:Program} {id:Nat} {l:List Oper} {fr:List V} {H:List AM.Obj} {Q:Exit->List V->List AM.Obj->Prop} {t} (h:hs P (l.map (·.dst)) H (Zm (fun fr'=>Q .normal (Gl fr') H) ⟨⟩) l (Gl fr)) (hm:P.follows .mixedOrders=true:=by exact mixed) (hB:Wr (List.toArray l) l.length=true:=by kernel_rfl) (hR:Us (List.toArray l) l.length=true:=by kernel_rfl):AWP P (.region id (Zm (List.toArray l) t) true) fr H Q:=BI hm hB hR h
theorem Dg (l:List Vis) (c:Bool) (v:Vis) (hl:l.length<=1048576):PC 234 [.p (.list c (l.map Xb)),.p (Xb v)] (.int .i64 (vIx l v)):=by
 refine Zc Tryz.func234 rfl O0 ?_;simp (disch:=omega) only [Tryz.f234,go_sem,seval];refine Zn [0,3,7] (fun k:Nat=> [(8,.p (.int .i64 k))]) (fun _=> [.cells [.p (.int .i64 v.order),.p (.bool v.drp)]]) (fun k=>k<=l.length/\ ∀j,j<k->decide (v=nth l j)=false) (fun k=>l.length-k) 0 Zb (Weak.mk ?_) ?_
 ·simp (disch:=omega) only [go_sem,seval,↓reduceIte]
 ·rintro k ⟨hk,hno⟩;refine Zj ?_;refine cD ?_ ?_<;>intro h<;>simp (disch:=omega) only [Sh.out h,go_sem,seval,↓reduceIte]
  ·have hk2:k<l.length:=Za
   refine WK (Zj ?_);refine cD ?_ ?_<;>intro h2<;>simp (disch:=omega) only [Sh.out h2,go_sem,seval,↓reduceIte]
   ·grind [Ra,vIx,BY]
   ·have: ¬v=nth l k:=by grind
    exact ⟨k+1,⟨Za,ZF.2 ⟨hno,by grind⟩⟩,Za,wk⟩
  grind [vIx,FT]
theorem Dy (l:List Vis) (c:Bool) (v:Vis) (hl:l.length<=1048576):PC 216 [.p (.list c (l.map Xb)),.p (Xb v)] (.int .i64 (vIx l v)):=by
 refine Zc Tryz.func216 rfl OP ?_;simp (disch:=omega) only [Tryz.f216,go_sem,seval];refine (Dg l c v hl).use ?_;simp (disch:=omega) only [go_sem,seval]
theorem Kk (l:List Vis) (c:Bool) (v:Vis) (hl:l.length<=1048576):PC 218 [.p (.list c (l.map Xb)),.p (Xb v)] (.bool (decide (0<=vIx l v))):=by
 refine Zc Tryz.func218 rfl OR ?_;simp (disch:=omega) only [Tryz.f218,go_sem,seval];refine (Dg l c v hl).use ?_;simp (disch:=omega) only [go_sem,seval]
theorem LW (l:List Ord) (c:Bool) (n:Int) (hl:l.length<=1048576):PC 117 [.p (.list c (l.map VE)),.p (.int .i64 n)] (.bool (decide (0<=n/\n<l.length))):=by
 refine Zc Tryz.func117 rfl Gn ?_;simp (disch:=omega) only [Tryz.f117,go_sem,seval];refine gT ?_ ?_<;>intro h<;>simp (disch:=omega) only [Sh.out h,go_sem,seval,↓reduceIte]
 all_goals (try simp [h])
def X3 (l:List Ord) (i:Nat):List Vis:=(if 0<=(nth l i).pick.place then [⟨i,false⟩] else [])++(if 0<=(nth l i).drp.place then [⟨i,true⟩] else [])
theorem HB (l:List Ord) (i:Nat):(X3 l i).length<=2:=by grind [X3]
theorem CJ (l:List Ord) (c:Bool) (i:Nat) (hi:i<l.length) (hl:l.length<=1048576):ACalls Tryz.prog 217 [.p (.list c (l.map VE)),.p (.int .i64 (i:Nat))] [] fun x H'=>x= .sl 0 0 (X3 l i).length (X3 l i).length/\H'= [.elems 2 ((X3 l i).map Xb)]:=by
 suffices hh:ACalls Tryz.prog 217 [.p (.list c (l.map VE)),.p (.int .i64 (i:Nat))] [] fun x H'=> ∃m:List Vis,m=X3 l i/\x= .sl 0 0 m.length m.length/\H'= [.elems 2 (m.map Xb)] by
  grind
 refine Q5 [2] Tryz.func217 rfl OQ ?_;simp (disch:=omega) only [Tryz.f217,go_sem,seval];refine Zp (Weak.ofNil 5 2 (by simp (disch:=omega) only [go_sem,seval]) Zb (Weak.refl _ _ _)) ?_;refine Zd [4] _ _ _ _ (Zj ?_);refine (LW l c i hl).use (Zj ?_)
 have h0:(0:Int)<=(i:Int)/\(i:Int)<(l.length:Int):=Za
 simp (disch:=omega) only [h0,go_sem,seval];refine XZ [0,1] (fun m:List Vis=> [(5,.sl 0 0 m.length m.length)]) (fun m=> [.elems 2 (m.map Xb)]) (fun m=>m=(if 0<=(nth l i).pick.place then [⟨i,false⟩] else [])) ?_ ?_
 ·refine Zj ?_;refine cD ?_ ?_<;>intro h<;>simp (disch:=omega) only [Sh.out h,go_sem,seval,↓reduceIte]
  ·exact ⟨[⟨i,false⟩],by simp [],wk⟩
  ·exact ⟨[],by simp [],wk⟩
 ·intro m hm
  have hml:m.length<=1:=by grind
  refine Zd [] _ _ _ _ (Zj ?_);refine cD ?_ ?_<;>intro h<;>simp (disch:=omega) only [Sh.out h,go_sem,seval,↓reduceIte]
  ·exact ⟨m++ [⟨i,true⟩],by simp_all [X3],0,by simp (disch:=omega) only [go_sem,seval]⟩
  ·exact ⟨m,by simp_all [X3],0,by simp (disch:=omega) only [go_sem,seval]⟩
theorem visits_c (l:List Ord) (c:Bool) (i:Nat) (hi:i<l.length) (hl:l.length<=1048576):PC 217 [.p (.list c (l.map VE)),.p (.int .i64 (i:Nat))] (.list false ((X3 l i).map Xb)) :=
 (CJ l c i hi hl).frozen Zb
def Uv (l:List Vis):Bool:=(List.range l.length).any fun i=>decide (0<=vIx (l.take i) (nth l i))
theorem LZ (l:List Vis) (c:Bool) (hl:l.length<=1048576):PC 183 [.p (.list c (l.map Xb))] (.bool (Uv l)):=by
 refine Zc Tryz.func183 rfl Ow ?_;simp (disch:=omega) only [Tryz.f183,go_sem,seval];refine Zn [0,5,6] (fun k:Nat=> [(7,.p (.int .i64 k))]) (fun _=> []) (fun k=>k<=l.length/\ ∀j,j<k->decide (0<=vIx (l.take j) (nth l j))=false) (fun k=>l.length-k) 0 Zb (Weak.mk ?_) ?_
 ·simp (disch:=omega) only [go_sem,seval,↓reduceIte]
 ·rintro k ⟨hk,hno⟩;refine Zj ?_;refine cD ?_ ?_<;>intro h<;>simp (disch:=omega) only [Sh.out h,go_sem,seval,↓reduceIte]
  ·have hk2:k<l.length:=Za
   refine WK (Zj ?_);refine ZK (Dy (l.take k) _ (nth l k) (by simp;omega)) (Zj ?_);refine cD ?_ ?_<;>intro h2<;>simp (disch:=omega) only [Sh.out h2,go_sem,seval,↓reduceIte]
   ·grind [Uv]
   ·exact ⟨k+1,⟨Za,ZF.2 ⟨hno,by grind⟩⟩,Za,wk⟩
  grind [Uv]
theorem UC (l:List Vis) (c:Bool) (g:FuncId) (caps:List V) (H:List AM.Obj) (f:Vis->Bool) (hl:l.length<=1048576) (hW:Br H H.length H H) (hc:Zw H.length caps=true)
  (hg: ∀v∈l,ACalls Tryz.prog g (.p (Xb v)::caps) H fun x H'=>x= .p (.bool (f v))/\H'=H) :
  ACalls Tryz.prog 215 [.p (.list c (l.map Xb)),.fn (.func g) [] caps] H fun x H'=>x= .p (.int .i64 (BX f l))/\H'=H:=by
 refine Xs Tryz.func215 rfl OO (Zd [] _ _ _ _ ?_);simp (disch:=omega) only [Tryz.f215,go_sem,seval];refine Zn [0,1,7] (fun k:Nat=> [(8,.p (.int .i64 k))]) (fun _=>H) (fun k=>k<=l.length/\ ∀j,j<k->f (nth l j)=false) (fun k=>l.length-k) 0 Zb (Weak.mk ?_) ?_
 ·simp (disch:=omega) only [hW,hc,go_sem,seval];simp
 ·rintro k ⟨hk,hno⟩;refine Zj ?_;refine cD ?_ ?_<;>intro h<;>simp (disch:=omega) only [Sh.out h,go_sem,seval,↓reduceIte]
  ·have hk2:k<l.length:=Za
   refine (hg (nth l k) (Xh hk2)).useH (Zj ?_);refine cD ?_ ?_<;>intro h2<;>simp (disch:=omega) only [Sh.out h2,go_sem,seval,↓reduceIte]
   ·grind [BY]
   ·have h3:f (nth l k)=false:=Za
    refine ⟨k+1,⟨Za,ZF.2 ⟨hno,h3⟩⟩,Za,Weak.mk ?_⟩;simp (disch:=omega) only [hW,hc,go_sem,seval];simp
  grind [FT]
theorem Yx (l:List Vis) (c:Bool) (g:FuncId) (caps:List V) (H:List AM.Obj) (f:Vis->Bool) (hl:l.length<=1048576) (hW:Br H H.length H H) (hc:Zw H.length caps=true)
  (hg: ∀v∈l,ACalls Tryz.prog g (.p (Xb v)::caps) H fun x H'=>x= .p (.bool (f v))/\H'=H) :
  ACalls Tryz.prog 180 [.p (.list c (l.map Xb)),.fn (.func g) [] caps] H fun x H'=>x= .p (.bool (l.any f))/\H'=H:=by
 refine Xs Tryz.func180 rfl Ot (Zd [] _ _ _ _ ?_);simp (disch:=omega) only [Tryz.f180,go_sem,seval];refine (UC l c g caps H f hl hW hc hg).useH (Zj ?_);rw [FS]
def Yh (l:List Vis) (o:Int):Bool:=l.any fun v=>decide (v.order=o)
theorem NU (v:Vis) (o:Int):ACalls Tryz.prog 219 [.p (Xb v),.ptr 0 0] [.cells [.p (.int .i64 o)]] fun x H'=>x= .p (.bool (decide (v.order=o)))/\H'= [.cells [.p (.int .i64 o)]]:=by
 refine Ze [] Tryz.func219 rfl OS ?_;simp (disch:=omega) only [Tryz.f219,go_sem,seval];exact we
theorem D4 (v:Vis) (o:Int):ACalls Tryz.prog 220 [.p (Xb v),.ptr 0 0] [.cells [.p (.int .i64 o)]] fun x H'=>x= .p (.bool (decide (v.order=o)))/\H'= [.cells [.p (.int .i64 o)]]:=by
 refine Ze [] Tryz.func220 rfl OT ?_;simp (disch:=omega) only [Tryz.f220,go_sem,seval];exact we
theorem V2 (l:List Vis) (c:Bool) (o:Int) (hl:l.length<=1048576):PC 185 [.p (.list c (l.map Xb)),.p (.int .i64 o)] (.bool (Yh l o)):=by
 refine Zc Tryz.func185 rfl Oy ?_;simp (disch:=omega) only [Tryz.f185,go_sem,seval];refine (Yx l c 219 [.ptr 0 0] [.cells [.p (.int .i64 o)]] (fun v=>decide (v.order=o)) hl (by simp (disch:=omega) only [go_sem,seval]) (by rfl) (fun v _=>NU v o)).useH (Zj ?_);rw [Yh]
def Yg (l:List Vis) (a b:Int):Bool:=if BX (fun v=>decide (v.order=b)) l<0 then true else Yh l a&& !Yh (l.drop (BX (fun v=>decide (v.order=b)) l).toNat) a
theorem A9 (l:List Vis) (c:Bool) (a b:Int) (hl:l.length<=1048576):PC 186 [.p (.list c (l.map Xb)),.p (.int .i64 a),.p (.int .i64 b)] (.bool (Yg l a b)):=by
 refine Zc Tryz.func186 rfl Oz ?_;simp (disch:=omega) only [Tryz.f186,go_sem,seval];refine (UC l c 220 [.ptr 0 0] [.cells [.p (.int .i64 b)]] (fun v=>decide (v.order=b)) hl (by simp (disch:=omega) only [go_sem,seval]) (by rfl) (fun v _=>D4 v b)).useH ?_;have hlt:=NN (f:=fun v=>decide (v.order=b)) (l:=l);refine Zj ?_;refine cD ?_ ?_<;>intro h<;>simp (disch:=omega) only [Sh.out h,go_sem,seval]
 ·rw [Yg,if_pos h]
 ·refine (V2 l c a hl).use (Zj ?_);generalize hq:BX (fun v=>decide (v.order=b)) l=q at hlt h ⊢
  cases h2:Yh l a with
  | false =>
   refine Zj ?_
   simp_all [Yg]
  | true =>
   simp (disch:=omega) only [List.take_length,go_sem,seval];refine (V2 (l.drop q.toNat) _ a (by simp;omega)).use (Zj ?_)
   simp_all [Yg,if_neg]
def Ua (l:List Vis):Int->List Vis->Bool
 | _,[]=>true
 | last,w::r=>decide (last<vIx l w)&&Ua l (vIx l w) r
def pairB (os:List Ord) (l:List Vis) (v:Vis):Bool:=decide (0<=vIx (X3 os v.order.toNat) v)&&Ua l (-1) (X3 os v.order.toNat)
theorem Bb (x:Inst) (l:List Vis) (c:Bool) (hl:l.length<=1048576) (ho:x.orders.length<=1048576) (hv: ∀v∈l,0<=v.order/\v.order<x.orders.length) :
  PC 184 [.p (XQ x),.p (.list c (l.map Xb))] (.bool (l.all (pairB x.orders l))):=by
 refine Zc Tryz.func184 rfl Ox ?_;simp (disch:=omega) only [Tryz.f184,go_sem,seval];refine Zn [1,2,12,13] (fun k:Nat=> [(14,.p (.int .i64 k))]) (fun _=> [Zk x]) (fun k=>k<=l.length/\ ∀j,j<k->pairB x.orders l (nth l j)=true) (fun k=>l.length-k) 0 Zb (Weak.mk ?_) ?_
 ·simp (disch:=omega) only [Zk,go_sem,seval]
 ·rintro k ⟨hk,hno⟩;simp (disch:=omega) only [Zk,go_sem,seval];refine cD ?_ ?_<;>intro h<;>simp (disch:=omega) only [Sh.out h,go_sem,seval,↓reduceIte]
  ·have hk2:k<l.length:=Za
   obtain ⟨v1,v2⟩:=hv _ (Xh hk2)
   have hbad:pairB x.orders l (nth l k)=false->l.all (pairB x.orders l)=false:=fun h4=>by
    grind [Xh]
   obtain ⟨i,hi⟩: ∃i:Nat,(nth l k).order=(i:Int):=⟨(nth l k).order.toNat,Za⟩
   have hp:pairB x.orders l (nth l k)=(decide (0<=vIx (X3 x.orders i) (nth l k))&&Ua l (-1) (X3 x.orders i)):=by rw [pairB,hi];rfl
   rw [hi] at v1 v2;simp (disch:=omega) only [hi,go_sem,seval];refine (visits_c x.orders x.orders_c i Za ho).use (Zj ?_);have hvl:=HB x.orders i;have hcon:=Kk (X3 x.orders i) false (nth l k) Za;rw [ID,hi] at hcon;refine (hcon).use (Zj ?_);refine cD ?_ ?_<;>intro h2<;>simp (disch:=omega) only [Sh.out h2,go_sem,seval]
   ·grind
   ·have h2':0<=vIx (X3 x.orders i) (nth l k):=Za
    generalize hown:X3 x.orders i=own at hvl hp h2' ⊢
    have hp2:pairB x.orders l (nth l k)=Ua l (-1) own:=by grind
    refine Zn [1,2,12,13,14,27,28] (fun q:Nat×Int=> [(8,.p (.int .i64 q.2)),(29,.p (.int .i64 q.1))]) (fun _=> [Zk x,.cells [.p (.int .i64 (i:Int)),.p (.bool (nth l k).drp)]]) (fun q=>q.1<=own.length/\Ua l (-1) own=Ua l q.2 (own.drop q.1)) (fun q=>own.length-q.1) (0,-1) Zb (Weak.mk ?_) ?_
    ·simp (disch:=omega) only [Zk,go_sem,seval]
    ·rintro ⟨j,last⟩ ⟨hj,ha⟩;simp only at hj ha;simp (disch:=omega) only [Zk,go_sem,seval];refine YF ?_ ?_<;>intro h3
     ·have hj2:j<own.length:=Za
      have hd:own.drop j=nth own j::own.drop (j+1):=by rw [List.drop_eq_getElem_cons hj2,Zh hj2]
      rw [hd] at ha;refine (Dy l c (nth own j) hl).use (Zj ?_);refine YF ?_ ?_<;>intro h4
      ·grind [Ua]
      ·have h5:last<vIx l (nth own j):=Za
       exact ⟨(j+1,vIx l (nth own j)),⟨Za,by grind [Ua]⟩,Za,wk⟩
     ·have hjl:j=own.length:=Za
      subst hjl;exact ⟨k+1,⟨Za,ZF.2 ⟨hno,by grind [Ua]⟩⟩,Za,wk⟩
  ·have hkl:k=l.length:=Za
   subst hkl
   have:l.all (pairB x.orders l)=true:=by
    rw [List.all_eq_true];intro v hv;obtain ⟨j,hj,rfl⟩:=List.mem_iff_getElem.1 hv
    grind [Zh]
   rw [this]
def Z7 (r:Rte):AM.Obj:= .cells [.p (.int .i64 r.typ),.p (.int .i64 r.start),.p (.list r.rests_c (r.rests.map eB)),.p (.list r.visits_c (r.visits.map Xb))]
def QH (x:Inst) (v:Vis):Bool:= !decide (0<=v.order/\v.order<(x.orders.length:Int))
theorem FG (x:Inst) (r:Rte) (v:Vis) (ho:x.orders.length<=1048576):ACalls Tryz.prog 181 [.p (Xb v),.ptr 0 0] [Zk x,Z7 r] fun y H'=>y= .p (.bool (QH x v))/\H'= [Zk x,Z7 r]:=by
 refine Ze [] Tryz.func181 rfl Ou ?_;simp (disch:=omega) only [Tryz.f181,Zk,Z7,go_sem,seval];refine gF ?_ ?_<;>intro h<;>simp (disch:=omega) only [Sh.out h,go_sem,seval,↓reduceIte]
 ·have e:QH x v=true:=by
   grind [QH]
  rw [e];exact we
 ·have e:QH x v=decide ((x.orders.length:Int)<=v.order):=by
   have h0:0<=v.order:=Za
   rw [Bool.eq_iff_iff];simp [QH,h0]
  rw [e];exact we
theorem FH (x:Inst) (r:Rte) (v:Vis) (ho:x.orders.length<=1048576) (h1:0<=v.order) (h2:v.order<x.orders.length):ACalls Tryz.prog 182 [.p (Xb v),.ptr 0 0] [Zk x,Z7 r] fun y H'=>y= .p (.bool (nth x.orders v.order.toNat).off)/\H'= [Zk x,Z7 r]:=by
 have h3:v.order.toNat<x.orders.length:=Za
 refine Ze [] Tryz.func182 rfl Ov ?_;simp (disch:=omega) only [Tryz.f182,Zk,Z7,go_sem,seval];exact we
def Z1 (x:Inst) (l:List Vis):Int :=
 if l.length=0\/l.any (QH x)=true then 2
 else if (l.any fun v=>(nth x.orders v.order.toNat).off)=true then 9
 else if Uv l=true then 6
 else if l.all (pairB x.orders l)=false then 19
 else if (x.apart.any fun p=>Yh l p.1&&Yh l p.2)=true then 20
 else if (x.before.any fun p=> !Yg l p.1 p.2)=true then 21
 else 0
theorem JV {P Q:Prop} (h:Q) (e:Q->P:=by intro h;simp (disch:=omega) only [Zk,Z7,go_sem,seval];exact h):P:=e h
theorem Cz (x:Inst) (r:Rte) (ho:x.orders.length<=1048576) (hl:r.visits.length<=1048576) (hap:x.apart.length<=1048576) (hbe:x.before.length<=1048576) :
  PC 153 [.p (XQ x),.p (Vo r)] (.int .i64 (Z1 x r.visits)):=by
 refine Zc Tryz.func153 rfl Ob ?_;simp (disch:=omega) only [Tryz.f153,go_sem,seval];refine gF ?_ ?_<;>intro h0<;>simp (disch:=omega) only [Sh.out h0,go_sem,seval]
 ·grind [Z1]
 ·have h00: ¬r.visits.length=0:=Za
  refine (Yx r.visits r.visits_c 181 [.ptr 0 0] [Zk x,Z7 r] (QH x) hl (by simp (disch:=omega) only [Zk,Z7,go_sem,seval]) (by rfl) (fun v _=>FG x r v ho)).useH (JV ?_);refine cD ?_ ?_<;>intro h1<;>simp (disch:=omega) only [Sh.out h1,go_sem,seval]
  ·simp_all [Z1]
  ·have h1':r.visits.any (QH x)=false:=Za
   have c1: ¬(r.visits.length=0\/r.visits.any (QH x)=true):=by grind
   have hin: ∀v∈r.visits,0<=v.order/\v.order<x.orders.length:=fun v hv=>by
    grind [QH]
   refine (Yx r.visits r.visits_c 182 [.ptr 0 0] [Zk x,Z7 r] (fun v=>(nth x.orders v.order.toNat).off) hl (by simp (disch:=omega) only [Zk,Z7,go_sem,seval]) (by rfl) (fun v hv=>FH x r v ho (hin v hv).1 (hin v hv).2)).useH (JV ?_);refine cD ?_ ?_<;>intro h2<;>simp (disch:=omega) only [Sh.out h2,go_sem,seval]
   ·simp_all [Z1]
   ·refine (LZ r.visits r.visits_c hl).use (Zj ?_);refine cD ?_ ?_<;>intro h3<;>simp (disch:=omega) only [Sh.out h3,go_sem,seval,↓reduceIte]
    ·simp_all [Z1,if_neg]
    ·refine (Bb x r.visits r.visits_c hl ho hin).use (Zj ?_);refine cD ?_ ?_<;>intro h4<;>simp (disch:=omega) only [Sh.out h4,go_sem,seval,↓reduceIte]
     ·simp_all [Z1,if_neg]
     ·have h4':r.visits.all (pairB x.orders r.visits)=true:=by grind
      have hc:Z1 x r.visits=if (x.apart.any fun p=>Yh r.visits p.1&&Yh r.visits p.2)=true then 20 else if (x.before.any fun p=> !Yg r.visits p.1 p.2)=true then 21 else 0:=by
       rw [Z1,if_neg c1,if_neg (by grind),if_neg (by grind),if_neg (by grind)]
      clear h4 h4' h3 h2 c1 h1' h1 h0;refine Zn [2,5,33,34] (fun k:Nat=> [(35,.p (.int .i64 k))]) (fun _=> [Zk x,Z7 r]) (fun k=>k<=x.apart.length/\ ∀j,j<k->(Yh r.visits (nth x.apart j).1&&Yh r.visits (nth x.apart j).2)=false) (fun k=>x.apart.length-k) 0 Zb (Weak.mk ?_) ?_
      ·simp (disch:=omega) only [Zk,Z7,go_sem,seval]
      ·rintro k ⟨hk,hno⟩;refine JV ?_;refine cD ?_ ?_<;>intro h<;>simp (disch:=omega) only [Sh.out h,go_sem,seval,↓reduceIte]
       ·have hk2:k<x.apart.length:=Za
        refine (V2 r.visits r.visits_c (nth x.apart k).1 hl).use (Zj ?_);refine aV ?_ ?_<;>intro h2
        ·refine (V2 r.visits r.visits_c (nth x.apart k).2 hl).use (Zj ?_);refine YF ?_ ?_<;>intro h3
         ·rw [hc,if_pos (CT hk2 (by grind))]
         ·exact ⟨k+1,⟨Za,ZF.2 ⟨hno,by grind⟩⟩,Za,wk⟩
        ·exact ⟨k+1,⟨Za,ZF.2 ⟨hno,by simp [h2]⟩⟩,Za,wk⟩
       ·have hkl:k=x.apart.length:=Za
        subst hkl;rw [hc,Fp hno];clear hno hk h hc;rw [if_neg Zb];refine Zn [5,51,52] (fun k:Nat=> [(53,.p (.int .i64 k))]) (fun _=> [Zk x,Z7 r]) (fun k=>k<=x.before.length/\ ∀j,j<k->(!Yg r.visits (nth x.before j).1 (nth x.before j).2)=false) (fun k=>x.before.length-k) 0 Zb (Weak.mk ?_) ?_
        ·simp (disch:=omega) only [Zk,Z7,go_sem,seval]
        ·rintro k ⟨hk,hno⟩;refine JV ?_;refine cD ?_ ?_<;>intro h<;>simp (disch:=omega) only [Sh.out h,go_sem,seval,↓reduceIte]
         ·have hk2:k<x.before.length:=Za
          refine (A9 r.visits r.visits_c (nth x.before k).1 (nth x.before k).2 hl).use (Zj ?_);refine YF ?_ ?_<;>intro h2
          ·have h3:(!Yg r.visits (nth x.before k).1 (nth x.before k).2)=true:=Za
           rw [if_pos (CT hk2 h3)]
          ·have h3:(!Yg r.visits (nth x.before k).1 (nth x.before k).2)=false:=Za
           exact ⟨k+1,⟨Za,ZF.2 ⟨hno,h3⟩⟩,Za,wk⟩
         grind [Fp]
@[go_sem] theorem gQ {H:List AM.Obj} {n cs cs'} :QY H n (.tup cs) (.tup cs')=(cs'=cs/\Zw n cs=true):=by simp [QY,HL,refB]
@[go_sem] theorem Co {a b:V} :WX [a,b]= .tup [a,b]:=Eq.trans rfl rfl
theorem Jf {g:FuncId} {args:List V} {a b:PV} {H:List AM.Obj} {K:V->List AM.Obj->Prop} (h:ACalls Tryz.prog g args [] fun x H'=>x= .tup [.p a,.p b]/\H'= []) (k:K (.tup [.p a,.p b]) H) (ha:Zw 0 args=true:=by rfl):ACalls Tryz.prog g args H K :=
 (h.behind ha H).mono fun x H' hq=>by
  obtain ⟨y,H1,⟨rfl,rfl⟩,rfl,rfl⟩:=hq
  grind [Bc,Wl]
def Wy (l:List Vis):Nat:=l.foldl (fun s v=>s|||pw v.order.toNat) 0
def HM (v:Vis):Bool:=decide (0<=v.order/\v.order<=62)
theorem JH {l:List Vis} {k:Nat} (hk:k<l.length):Wy (l.take (k+1))=Wy (l.take k)|||pw (nth l k).order.toNat:=by
 grind [List.take_succ_eq_append_getElem,Wy,Zh]
theorem Dw : ∀(k:Nat) {l:List Vis},k<=l.length->(∀v∈l.take k,HM v=true)->Wy (l.take k)<9223372036854775808
 | 0,l,_,_=>by simp [Wy]
 | k+1,l,hk,h=>by
  have hk2:k<l.length:=Za
  have ih:=Dw k (l:=l) Za fun v hv=>h v (List.take_subset_take_left l Za hv);have hv:=h (nth l k) (by rw [Zh hk2];exact List.mem_iff_getElem.2 ⟨k,by simp;omega,Zb⟩);simp only [HM,decide_eq_true_eq] at hv;have h2:pw (nth l k).order.toNat<=pw 62:=He Za;have h3:=Hd;rw [JH hk2];exact Nat.or_lt_two_pow (n:=63) Za Za
def AR (l:List Vis):Int×Int:=if l.all HM=true then (((Wy l:Nat):Int),0) else (0,2)
theorem Ba (r:Rte) (hl:r.visits.length<=1048576):PT 121 [.p (Vo r)] [.p (.int .i64 (AR r.visits).1),.p (.int .i64 (AR r.visits).2)]:=by
 refine Ze [] Tryz.func121 rfl N2 ?_;simp (disch:=omega) only [Tryz.f121,go_sem,seval];refine Zn [8,9] (fun k:Nat=> [(4,.p (.int .i64 (Wy (r.visits.take k):Nat))),(10,.p (.int .i64 k))]) (fun _=> [Z7 r]) (fun k=>k<=r.visits.length/\ ∀j,j<k->HM (nth r.visits j)=true) (fun k=>r.visits.length-k) 0 Zb (Weak.mk ?_) ?_
 ·simp (disch:=omega) only [Z7,Wy,List.take_zero,List.foldl_nil,go_sem,seval]
 ·rintro k ⟨hk,hno⟩
  have hlt:=Dw k hk fun v hv=>by
   obtain ⟨j,hj,rfl⟩:=List.mem_iff_getElem.1 hv
   grind [Zh]
  simp (disch:=omega) only [Z7,go_sem,seval];refine cD ?_ ?_<;>intro h<;>simp (disch:=omega) only [Sh.out h,go_sem,seval,↓reduceIte]
  ·have hk2:k<r.visits.length:=Za
   have hbad:HM (nth r.visits k)=false->AR r.visits=(0,2):=fun h4=>by
    grind [Xh,AR]
   have hs:=JH hk2
   have hp:(nth r.visits k).order<=62->pw (nth r.visits k).order.toNat<=4611686018427387904:=fun h=>by rw [<- Hd];exact He Za
   refine gF ?_ ?_<;>intro h1<;>simp (disch:=omega) only [Sh.out h1,go_sem,seval,↓reduceIte]
   ·have e:=hbad (by simp [HM];omega);rw [e];exact we
   ·refine YF ?_ ?_<;>intro h2
    ·have e:=hbad (by simp [HM];omega);rw [e];exact we
    ·exact ⟨k+1,⟨Za,ZF.2 ⟨hno,by simp [HM];omega⟩⟩,Za,Weak.mk (by simp (disch:=omega) only [hs,go_sem,seval])⟩
  ·have hkl:k=r.visits.length:=Za
   subst hkl
   have:r.visits.all HM=true:=by
    rw [List.all_eq_true];intro v hv;obtain ⟨j,hj,rfl⟩:=List.mem_iff_getElem.1 hv
    grind [Zh]
   have e:AR r.visits=(((Wy r.visits:Nat):Int),0):=by simp [AR,this]
   rw [e,List.take_length];exact we
def dn (v:Vis):Int:=if v.drp=true then 1 else 0
def qF (nx:List Vis->List Vis):Nat->List Vis->List (List Vis)->List (List Vis)×Bool
 | 0,l,outs=>(outs++ [l],decide (outs.length+1<=8192))
 | f+1,l,outs=>(nx l).foldl (fun acc v=>if acc.2=true then qF nx f (l++ [v]) acc.1 else acc) (outs,true)
def Plc (x:Inst):Prop:= ∀o∈x.orders,-1<=o.pick.place/\ -1<=o.drp.place
theorem V4 {l:List Vis} {v:Vis} :0<=vIx l v↔v∈l:=by
 grind [FS,vIx]
def Vne (x:Inst):Prop:= ∀i,i<x.orders.length->X3 x.orders i≠ []
def ext (nx:List Vis->List Vis):Nat->List Vis->List (List Vis)->List (List Vis)
 | 0,l,outs=>if 8192<outs.length then outs else outs++ [l]
 | f+1,l,outs=>if 8192<outs.length then outs else (nx l).foldl (fun acc v=>ext nx f (l++ [v]) acc) outs
structure IFacts (x:Inst):Prop where
 len:x.orders.length<=10
 plc:Plc x
 vne:Vne x
 val:Val x.orders.length x.before
 ne: ∀p∈x.before,p.1≠p.2
 aval:Val x.orders.length x.apart
theorem F2 {n:Int} {word:List UInt8} {sm:Int×Int->Int×Int->Bool} {l:List (Int×Int)} (h:NO n word sm l l.length= []): ∀p∈l,dS n p=true:=by
 intro p hp;obtain ⟨i,hi,rfl⟩:=List.mem_iff_getElem.1 hp;have h2:=(List.append_eq_nil_iff.1 h).2;rw [List.flatMap_eq_nil_iff] at h2;have h3:=h2 i (by grind)
 grind [qY,Zh]
theorem El {x:Inst} (h:InstOk x):IFacts x:=by
 have ho:=h.orders;obtain ⟨h1,h2⟩:=List.append_eq_nil_iff.1 h.rules;have ha:=F2 h1;have hb:=F2 h2
 have hpl:Plc x:=fun o hm=>by
  obtain ⟨i,hi,rfl⟩:=List.mem_iff_getElem.1 hm;have:=ho.2 i hi;rw [<- Zh hi];exact ⟨this.pick.1,this.drp.1⟩
 have val: ∀l:List (Int×Int),(∀p∈l,dS x.orders.length p=true)->Val x.orders.length l:=fun l h p hp=>by
  grind [dS]
 refine ⟨ho.1,hpl,fun i hi=> ?_,val _ hb,fun p hp=> ?_,val _ ha⟩
 ·have h3:=ho.2 i hi;have h4:=hpl _ (Xh hi);have h5:=h3.one
  grind [X3]
 grind [dS]
theorem Qn {l:List Vis} {o:Int} :Yh l o=true↔ ∃v∈l,v.order=o:=by simp [Yh]
theorem GZ : ∀(l:List Vis) (i:Nat),(Wy l).testBit i=true↔ ∃v∈l,v.order.toNat=i:=by
 have key: ∀(l:List Vis) (s i:Nat),(l.foldl (fun s v=>s|||pw v.order.toNat) s).testBit i=true↔s.testBit i=true\/ ∃v∈l,v.order.toNat=i:=by
  intro l
  induction l with
  | nil=>simp
  | cons v l ih =>
   intro s i;rw [List.foldl_cons,ih,Nat.testBit_or,CG,Bool.or_eq_true,decide_eq_true_eq,or_assoc];simp
 grind [Wy]
def Inr (x:Inst) (l:List Vis):Prop:= ∀v∈l,0<=v.order/\v.order<x.orders.length
theorem KK {l:List Vis} (hd:l.Nodup) {k:Nat} (hk:k<l.length):vIx l (nth l k)=(k:Int):=by
 refine BY hk Zb fun j hj=> ?_
 grind [Zh,List.pairwise_iff_getElem]
theorem L4 {l:List Vis} {v:Vis} (h:0<=vIx l v):(vIx l v).toNat<l.length/\nth l (vIx l v).toNat=v:=by
 grind [vIx,BX,List.findIdx?_eq_some_iff_getElem,Zh]
theorem Bj {l:List Vis} {v:Vis} {i:Nat} (h:v∈l.take i): ∃j,j<i/\j<l.length/\nth l j=v:=by
 obtain ⟨j,hj,rfl⟩:=List.mem_iff_getElem.1 h;simp at hj;exact ⟨j,Za,Za,by grind [Zh]⟩
theorem AF {l:List Vis} {i j:Nat} (h:j<i) (hl:j<l.length):nth l j∈l.take i:=by
 grind [Zh,List.mem_iff_getElem]
theorem CI {l:List Vis} :Uv l=false↔l.Nodup:=by
 rw [Uv,List.any_eq_false]
 constructor
 ·intro h;rw [List.nodup_iff_pairwise_ne,List.pairwise_iff_getElem];intro i j hi hj hij e;have:=h j (by grind);simp only [decide_eq_true_eq,V4] at this;refine this ?_;rw [Zh hj,<- e,<- Zh hi];exact AF hij hi
 ·intro h j hj;simp only [decide_eq_true_eq,V4]
  grind [Bj,KK]
def Bv (x:Inst) (l:List Vis) (n i:Nat):Bool:=(l.take n).foldl (fun on v=>if v.order=(i:Int) then !v.drp else on) (decide ((nth x.orders i).pick.place<0))
theorem GU {x:Inst} {l:List Vis} {i:Nat} :Bv x l 0 i=decide ((nth x.orders i).pick.place<0):=by simp [Bv]
theorem QE {x:Inst} {l:List Vis} {n i:Nat} (h:n<l.length):Bv x l (n+1) i=if (nth l n).order=(i:Int) then !(nth l n).drp else Bv x l n i:=by
 grind [Bv,List.take_succ_eq_append_getElem,Zh]
structure SqOk (x:Inst) (l:List Vis):Prop where
 ne:l≠ []
 inr:Inr x l
 nd:l.Nodup
 pair: ∀v∈l,pairB x.orders l v=true
theorem XB {x:Inst} {l:List Vis} (h:Z1 x l=0):SqOk x l:=by
 unfold Z1 at h
 split at h
 ·simp at h
 ·rename_i h1
  split at h
  ·simp at h
  ·split at h
   ·simp at h
   ·rename_i h3
    split at h
    ·simp at h
    ·rename_i h4;refine ⟨fun e=>h1 (.inl (by simp [e])),fun v hv=> ?_,CI.1 (by grind),fun v hv=> ?_⟩
     ·grind [QH]
     grind
structure OwnV (x:Inst) (l:List Vis) (i:Nat):Prop where
 pick:0<=(nth x.orders i).pick.place->(⟨i,false⟩:Vis)∈l
 drp:0<=(nth x.orders i).drp.place->(⟨i,true⟩:Vis)∈l
 both:0<=(nth x.orders i).pick.place->0<=(nth x.orders i).drp.place->vIx l ⟨i,false⟩<vIx l ⟨i,true⟩
 isP:(⟨i,false⟩:Vis)∈l->0<=(nth x.orders i).pick.place
 isD:(⟨i,true⟩:Vis)∈l->0<=(nth x.orders i).drp.place
theorem SqOk.own {x:Inst} {l:List Vis} (h:SqOk x l) {i:Nat} (hi: ∃v∈l,v.order=(i:Int)):OwnV x l i:=by
 obtain ⟨v0,hv0,ho⟩:=hi
 have key: ∀v∈l,v.order=(i:Int)->v∈X3 x.orders i/\Ua l (-1) (X3 x.orders i)=true:=fun v hv hvo=>by
  have:=h.pair v hv;simp only [pairB,hvo,Int.toNat_natCast,Bool.and_eq_true,decide_eq_true_eq] at this;exact ⟨V4.1 this.1,this.2⟩
 obtain ⟨_,hasc⟩:=key v0 hv0 ho;have mem: ∀b:Bool,(⟨i,b⟩:Vis)∈l->(⟨i,b⟩:Vis)∈X3 x.orders i:=fun b hb=>(key _ hb rfl).1
 have hp:(⟨i,false⟩:Vis)∈X3 x.orders i->0<=(nth x.orders i).pick.place:=fun hm=>by
  unfold X3 at hm
  grind
 have hd:(⟨i,true⟩:Vis)∈X3 x.orders i->0<=(nth x.orders i).drp.place:=fun hm=>by
  unfold X3 at hm
  grind
 have m1: ∀v,-1<vIx l v->v∈l:=fun v hv=>V4.1 Za;unfold X3 at hasc
 by_cases c1:0<=(nth x.orders i).pick.place<;>by_cases c2:0<=(nth x.orders i).drp.place
 ·simp only [c1,c2,if_true,List.cons_append,List.nil_append,Ua,Bool.and_true,Bool.and_eq_true,decide_eq_true_eq] at hasc;exact ⟨fun _=>m1 _ hasc.1,fun _=>m1 _ Za,fun _ _=>hasc.2,fun _=>c1,fun _=>c2⟩
 ·simp only [c1,c2,if_true,if_false,List.append_nil,Ua,Bool.and_true,decide_eq_true_eq] at hasc;exact ⟨fun _=>m1 _ hasc,fun h=>absurd h c2,fun _ h=>absurd h c2,fun _=>c1,fun hm=>hd (mem _ hm)⟩
 ·simp only [c1,c2,if_true,if_false,List.nil_append,Ua,Bool.and_true,decide_eq_true_eq] at hasc;exact ⟨fun h=>absurd h c1,fun _=>m1 _ hasc,fun h=>absurd h c1,fun hm=>hp (mem _ hm),fun _=>c2⟩
 ·exact ⟨fun h=>absurd h c1,fun h=>absurd h c2,fun h=>absurd h c1,fun hm=>hp (mem _ hm),fun hm=>hd (mem _ hm)⟩
theorem Y7 {l:List Vis} (hn:l.Nodup) {v:Vis} {n:Nat} :v∈l.take n↔0<=vIx l v/\vIx l v<(n:Int):=by
 constructor
 ·intro h;obtain ⟨j,h1,h2,rfl⟩:=Bj h
  grind [KK]
 ·intro ⟨h1,h2⟩;obtain ⟨h3,h4⟩:=L4 h1
  grind [AF]
theorem GT {x:Inst} {l:List Vis} (h:SqOk x l) (i:Nat): ∀n,n<=l.length->Bv x l n i=if (⟨i,true⟩:Vis)∈l.take n then false else if (⟨i,false⟩:Vis)∈l.take n then true else decide ((nth x.orders i).pick.place<0)
 | 0,_=>by simp [Bv]
 | n+1,hn=>by
  have hk:n<l.length:=Za
  have hat:=KK h.nd hk;rw [QE hk,GT h i n Za]
  by_cases c:(nth l n).order=(i:Int)
  ·rw [if_pos c];have ho:=h.own (i:=i) ⟨nth l n,Xh hk,c⟩
   cases hd:(nth l n).drp with
   | true =>
    have hv:nth l n=⟨i,true⟩:=by rw [<- c,<- hd]
    rw [hv] at hat;have:(⟨i,true⟩:Vis)∈l.take (n+1):=(Y7 h.nd).2 Za;rw [if_pos this];rfl
   | false =>
    have hv:nth l n=⟨i,false⟩:=by rw [<- c,<- hd]
    rw [hv] at hat;have h1:(⟨i,false⟩:Vis)∈l.take (n+1):=(Y7 h.nd).2 Za
    have h2: ¬(⟨i,true⟩:Vis)∈l.take (n+1):=fun hm=>by
     have h3:=List.mem_of_mem_take hm;have h4:=(Y7 h.nd).1 hm;have h5:=ho.both (ho.isP (List.mem_of_mem_take h1)) (ho.isD h3);omega
    rw [if_neg h2,if_pos h1];rfl
  ·rw [if_neg c]
   have e: ∀b:Bool,((⟨i,b⟩:Vis)∈l.take (n+1))=((⟨i,b⟩:Vis)∈l.take n):=fun b=>by
    rw [List.take_succ_eq_append_getElem hk,List.mem_append,<- Zh hk];refine propext ⟨fun hm=>hm.resolve_right fun hm=> ?_,.inl⟩;simp at hm;exact c (by rw [<- hm])
   simp only [e]
theorem Pw {x:Inst} {l:List Vis} (h:SqOk x l) {k i:Nat} (hk:k<l.length) (hi:(nth l k).order=(i:Int)):Bv x l k i=(nth l k).drp:=by
 have hat:=KK h.nd hk;have ho:=h.own (i:=i) ⟨nth l k,Xh hk,hi⟩;have hm:=Xh hk;rw [GT h i k Za]
 cases hd:(nth l k).drp with
 | true =>
  have hv:nth l k=⟨i,true⟩:=by rw [<- hi,<- hd]
  rw [hv] at hat hm
  have h1: ¬(⟨i,true⟩:Vis)∈l.take k:=fun hm=>by have:=(Y7 h.nd).1 hm;omega
  rw [if_neg h1]
  by_cases c:0<=(nth x.orders i).pick.place
  ·have h2:=ho.both c (ho.isD hm);have h3:(⟨i,false⟩:Vis)∈l.take k:=(Y7 h.nd).2 ⟨V4.2 (ho.pick c),Za⟩
   grind
  grind
 | false =>
  have hv:nth l k=⟨i,false⟩:=by rw [<- hi,<- hd]
  rw [hv] at hat hm;have hp:=ho.isP hm
  have h1: ¬(⟨i,false⟩:Vis)∈l.take k:=fun hm=>by have:=(Y7 h.nd).1 hm;omega
  grind
theorem LS {f g:Nat->Int} {i:Nat} (h: ∀q,q≠i->f q=g q): ∀n,i<n->((List.range n).map f).sum=((List.range n).map g).sum+(f i-g i):=by
 have same: ∀n,n<=i->((List.range n).map f).sum=((List.range n).map g).sum:=fun n hn=>by
  grind [List.map_congr_left]
 intro n
 induction n with
 | zero=>omega
 | succ n ih =>
  intro hi;simp only [List.range_succ,List.map_append,List.map_cons,List.map_nil,List.sum_append,List.sum_cons,List.sum_nil]
  grind
theorem DF {f:Nat->Int} {b:Int} (hb:0<=b) (h: ∀q,0<=f q/\f q<=b): ∀n:Nat,0<=((List.range n).map f).sum/\((List.range n).map f).sum<=b*n
 | 0=>Zb
 | n+1=>by
  have ih:=DF hb h n
  grind [List.range_succ]
theorem Vu {p:Nat->Bool} {f:Nat->Int} : ∀l:List Nat,((l.filter p).map f).sum=(l.map fun i=>if p i=true then f i else 0).sum
 | []=>rfl
 | a::l=>by
  rw [List.filter_cons,List.map_cons,List.sum_cons]
  by_cases h:p a=true
  ·rw [if_pos h,List.map_cons,List.sum_cons,Vu l,if_pos h]
  ·rw [if_neg h,Vu l,if_neg h];omega
def QU (x:Inst) (l:List Vis) (n j:Nat):Int:=((List.range x.orders.length).map fun i=>if (Bv x l n i&&Yh l i)=true then nth (nth x.orders i).load j else 0).sum
theorem JW {x:Inst} {l:List Vis} (h:SqOk x l) {k j:Nat} (hk:k<l.length):QU x l (k+1) j=if (nth l k).drp=true then QU x l k j-nth (nth x.orders (nth l k).order.toNat).load j else QU x l k j+nth (nth x.orders (nth l k).order.toNat).load j:=by
 obtain ⟨v1,v2⟩:=h.inr _ (Xh hk);obtain ⟨i,hi⟩: ∃i:Nat,(nth l k).order=(i:Int):=⟨(nth l k).order.toNat,Za⟩;have hh:Yh l (i:Int)=true:=Qn.2 ⟨_,Xh hk,hi⟩;have h1:=Pw h hk hi
 have h2:Bv x l (k+1) i= !(nth l k).drp:=by simp_all [QE]
 unfold QU
 rw [LS (f:=fun i=>if (Bv x l (k+1) i&&Yh l i)=true then nth (nth x.orders i).load j else 0) (g:=fun i=>if (Bv x l k i&&Yh l i)=true then nth (nth x.orders i).load j else 0) (i:=i) (fun q hq=>by
  have:Bv x l (k+1) q=Bv x l k q:=by rw [QE hk,if_neg Za]
  grind) x.orders.length Za]
 grind
def X5 (x:Inst) (l:List Vis) (n:Nat):List Int:=(List.range (dimsOf x.types).toNat).map fun j=>QU x l n j
def UZ (a b:List Int):List Int:=(List.range a.length).map fun j=>nth a j+nth b j
def LR (a b:List Int):List Int:=(List.range a.length).map fun j=>nth a j-nth b j
theorem KU {x:Inst} {l:List Vis} {n:Nat} :(X5 x l n).length=(dimsOf x.types).toNat:=by simp [X5]
theorem WW {f:Nat->Int} {n j:Nat} (h:j<n):nth ((List.range n).map f) j=f j:=by
 grind [Zh]
theorem DQ {x:Inst} {l:List Vis} (h:SqOk x l) {k:Nat} (hk:k<l.length):X5 x l (k+1)=if (nth l k).drp=true then LR (X5 x l k) (nth x.orders (nth l k).order.toNat).load else UZ (X5 x l k) (nth x.orders (nth l k).order.toNat).load:=by
 have key: ∀g:Nat->Int,(∀j,j<(dimsOf x.types).toNat->QU x l (k+1) j=g j)->X5 x l (k+1)=(List.range (dimsOf x.types).toNat).map g:=fun g hg =>
  List.map_congr_left fun j hj=>hg j (List.mem_range.1 hj)
 split
 ·simp_all [LR,JW,X5,WW]
 simp_all [UZ,JW,X5,WW]
def Xw (p:Pln):AM.Obj:= .cells [.p (.list p.routes_c (p.routes.map Vo)),.p (.list p.unserved_c (p.unserved.map eI))]
def Hj (r:Rte):Prop:=r.visits.length<=1048576/\r.rests.length<=1048576
def V1 (l:List Pt) (t:Int) (i:Nat):Bool:=decide ((nth l i).t<=t)&&decide (t<(nth l (i+1)).t)
def KF (p q:Pt) (t:Int):Int:=p.a+((t-p.t)*(q.a-p.a)+q.t-p.t-1) / (q.t-p.t)
def WI (l:List Pt) (t:Int):Int:=match (List.range (l.length-1)).find? (V1 l t) with
 | some i=>KF (nth l i) (nth l (i+1)) t
 | none=>if (nth l 0).t<t then t+(nth l (l.length-1)).a-(nth l (l.length-1)).t else t+(nth l 0).a-(nth l 0).t
theorem CW {l:List Pt} {t:Int} {i:Nat} (hi:i+1<l.length) (hno: ∀j,j<i->V1 l t j=false) (h:V1 l t i=true):WI l t=KF (nth l i) (nth l (i+1)) t:=by
 have:(List.range (l.length-1)).find? (V1 l t)=some i:=by
  grind [List.find?_eq_some_iff_getElem]
 rw [WI,this]
theorem Ka {l:List Pt} {t:Int} (hno: ∀j,j+1<l.length->V1 l t j=false):WI l t=if (nth l 0).t<t then t+(nth l (l.length-1)).a-(nth l (l.length-1)).t else t+(nth l 0).a-(nth l 0).t:=by
 grind [WI]
theorem A8 {p q:Pt} {t:Int} (h1:p.t<=t) (h2:t<q.t) (hp:0<=p.t) (hq:q.t<=4096) (ha:p.a<=q.a) (hpa:0<=p.a) (hqa:q.a<=8192):0<=(t-p.t)*(q.a-p.a)/\(t-p.t)*(q.a-p.a)<=33554432:=by
 refine ⟨Int.mul_nonneg Za Za,?_⟩;have:(t-p.t)*(q.a-p.a)<=4096*8192:=Int.mul_le_mul Za Za Za Za;omega
theorem Zq {α:Type} [Inhabited α] {l:List α} {i:Nat} (h:i<l.length):nth l i∈l:=by grind [Zh]
def Nb (a:Arc):Prop:=YD a.travel/\a.slow.length<=16/\ ∀p∈a.slow,0<=p.t/\p.t<=4096/\0<=p.a/\p.a<=4096
def Vj (l:List Pt) (t:Int) (k:Nat):Int:=(l.take k).foldl (fun s p=>if p.t<=t then s+p.a else s) 0
def DV (a:Arc) (t:Int):Int:=WI a.travel t+Vj a.slow t a.slow.length
theorem QS {l:List Pt} {t:Int} {k:Nat} (h:k<l.length):Vj l t (k+1)=if (nth l k).t<=t then Vj l t k+(nth l k).a else Vj l t k:=by
 grind [Vj,List.take_succ_eq_append_getElem,Zh]
theorem Vb {l:List Pt} {t:Int} (hl: ∀p∈l,0<=p.a/\p.a<=4096): ∀k,k<=l.length->0<=Vj l t k/\Vj l t k<=4096*k
 | 0,_=>by simp [Vj]
 | k+1,h=>by
  have ih:=Vb (t:=t) hl k Za
  grind [Zq,QS]
theorem K0 {l:List Pt} {t:Int} (hl:YD l) (ht:0<=t/\t<=1073741824):0<=WI l t/\WI l t<=1107304448:=by
 obtain ⟨⟨hl1,hl2⟩,hpt⟩:=hl;unfold WI
 split
 ·rename_i i hi;have hm:=List.mem_of_find?_eq_some hi;have hs:=List.find?_some hi;simp at hm;simp only [V1,Bool.and_eq_true,decide_eq_true_eq] at hs;obtain ⟨⟨p1,p2,p3,p4⟩,_⟩:=hpt i Za;obtain ⟨⟨q1,q2,q3,q4⟩,q5⟩:=hpt (i+1) Za;obtain ⟨r1,r2⟩:=q5 Za;rw [Nat.add_sub_cancel] at r1 r2;obtain ⟨s1,s2⟩:=A8 hs.1 hs.2 p1 q2 r2 Za Za;have d1:0<=((t-(nth l i).t)*((nth l (i+1)).a-(nth l i).a)+(nth l (i+1)).t-(nth l i).t-1) / ((nth l (i+1)).t-(nth l i).t):=Int.ediv_nonneg Za Za;have d2:((t-(nth l i).t)*((nth l (i+1)).a-(nth l i).a)+(nth l (i+1)).t-(nth l i).t-1) / ((nth l (i+1)).t-(nth l i).t)<=33558528:=Int.le_trans (Int.ediv_le_self _ Za) Za
  unfold KF;omega
 ·obtain ⟨⟨p1,p2,p3,p4⟩,_⟩:=hpt 0 Za;obtain ⟨⟨q1,q2,q3,q4⟩,_⟩:=hpt (l.length-1) Za;omega
theorem MN {g:FuncId} {args:List V} {a b c:PV} {H:List AM.Obj} {K:V->List AM.Obj->Prop} (h:ACalls Tryz.prog g args [] fun x H'=>x= .tup [.p a,.p b,.p c]/\H'= []) (k:K (.tup [.p a,.p b,.p c]) H) (ha:Zw 0 args=true:=by rfl):ACalls Tryz.prog g args H K :=
 (h.behind ha H).mono fun x H' hq=>by
  obtain ⟨y,H1,⟨rfl,rfl⟩,rfl,rfl⟩:=hq
  grind [Bc,Wl]
theorem ZZ {g:FuncId} {args:List V} {a b:PV} {H:List AM.Obj} {K:V->List AM.Obj->Prop} (h:ACalls Tryz.prog g args [] fun x H'=>x= .tup [.p a,.p b]/\H'= []) (k:K (.tup [.p a,.p b]) H) (ha:Zw 0 args=true:=by rfl):ACalls Tryz.prog g args H K :=
 (h.behind ha H).mono fun x H' hq=>by
  obtain ⟨y,H1,⟨rfl,rfl⟩,rfl,rfl⟩:=hq
  grind [Bc,Wl]
def QK (n:Net) (p:Int):Bool:=decide (0<=p)&&decide (p<(n.places.length:Int))
def Wp (pr f t:Int) (a:Arc):Bool:=decide (a.src=f)&&decide (a.dst=t)&&decide (a.prof=pr)
def Vd : Arc:=⟨0,0,0,0,true,[],true,[]⟩
def Yc (n:Net) (pr f t:Int):Arc×Bool:=match n.arcs.find? (Wp pr f t) with | some a=>(a,true) | none=>(Vd,false)
theorem FU {n:Net} {pr f t:Int} {k:Nat} (hk:k<n.arcs.length) (hno: ∀j,j<k->Wp pr f t (nth n.arcs j)=false) (h:Wp pr f t (nth n.arcs k)=true):Yc n pr f t=(nth n.arcs k,true):=by
 have:n.arcs.find? (Wp pr f t)=some (nth n.arcs k):=by
  grind [List.find?_eq_some_iff_getElem,Zh]
 rw [Yc,this]
theorem FV {n:Net} {pr f t:Int} (hno: ∀j,j<n.arcs.length->Wp pr f t (nth n.arcs j)=false):Yc n pr f t=(Vd,false):=by
 have:n.arcs.find? (Wp pr f t)=none:=by
  rw [List.find?_eq_none];intro a ha;obtain ⟨j,hj,rfl⟩:=List.mem_iff_getElem.1 ha
  grind [Zh]
 rw [Yc,this]
def Q8 (n:Net) (pr f t τ:Int):Int×Int×Int :=
 if (QK n f&&QK n t)=false then (0,0,11) else if f=t then (τ,0,0) else if (Yc n pr f t).2=true then (DV (Yc n pr f t).1 τ,(Yc n pr f t).1.miles,0) else (0,0,12)
def netR (n:Net):Prop:=n.places.length<=1048576/\n.arcs.length<=1048576/\ ∀a∈n.arcs,Nb a
theorem Uf {n:Net} {pr f t:Int} (h:(Yc n pr f t).2=true):(Yc n pr f t).1∈n.arcs:=by
 grind [Yc]
theorem C7 {n:Nat} (h:n<10):dec n= [UInt8.ofNat (48+n)]:=by rw [dec,dif_pos h]
theorem Iw {n:Nat} (h:10<=n) (h2:n<100):dec n= [UInt8.ofNat (48+n / 10),UInt8.ofNat (48+n%10)]:=by
 rw [dec,dif_neg Za,C7 Za];rfl
theorem K1 {s:List UInt8} {k k':IntKind} {a b:Int} (h:0<=a/\a<=b/\b<=(s.length:Int)):Ub (some .string) s (.p (.int k a)) (.p (.int k' b))=some (.p (.str ((s.take b.toNat).drop a.toNat))):=by
 simp_all [Ub]
def digT : List UInt8:=(List.range 36).map fun i=>UInt8.ofNat (if i<10 then 48+i else 87+i)
def smalT : List UInt8:=(List.range 100).flatMap fun i=> [UInt8.ofNat (48+i / 10),UInt8.ofNat (48+i%10)]
theorem Ix : ∀n,n<10->(digT.take (n+1)).drop n= [UInt8.ofNat (48+n)]:=by decide
theorem Hw : ∀n,n<100->(smalT.take (2*n+2)).drop (2*n)= [UInt8.ofNat (48+n / 10),UInt8.ofNat (48+n%10)]:=by decide+kernel
theorem LL (n:Nat) (hn:n<100):PC 202 [.p (.int .i64 (n:Int))] (.str (dec n)):=by
 refine Zc Tryz.func202 rfl OM ?_;simp (disch:=omega) only [Tryz.f202,go_sem,seval];refine cD ?_ ?_<;>intro h<;>simp (disch:=omega) only [Sh.out h,go_sem,seval]
 ·rw [C7 Za,K1 (by simp;omega)]
  have e1:((n:Int)+1).toNat=n+1:=Za
  have e2:((n:Int)).toNat=n:=Za
  rw [e1,e2];refine (congrArg (fun z=>Q3 (some (V.p (PV.str z))) _) (Ix n Za)).mpr ?_;simp (disch:=omega) only [go_sem,seval]
 ·rw [Iw Za hn,K1 (by simp;omega)]
  have e1:((n:Int)*2+2).toNat=2*n+2:=Za
  have e2:((n:Int)*2).toNat=2*n:=Za
  rw [e1,e2];refine (congrArg (fun z=>Q3 (some (V.p (PV.str z))) _) (Hw n Za)).mpr ?_;simp (disch:=omega) only [go_sem,seval]
theorem F4 (n:Nat) (hn:n<100):PC 167 [.p (.int .i64 (n:Int)),.p (.int .i64 10)] (.str (dec n)):=by
 refine Zc Tryz.func167 rfl Om ?_
 have h0:(0:Int)<=(n:Int):=Za
 have h1:(n:Int)<100:=Za
 simp (disch:=omega) only [Tryz.f167,h0,h1,go_sem,seval];refine (LL n hn).use ?_;simp (disch:=omega) only [go_sem,seval]
theorem IS (n:Nat) (hn:n<100):PC 122 [.p (.int .i64 (n:Int))] (.str (dec n)):=by
 refine Zc Tryz.func122 rfl N4 ?_;simp (disch:=omega) only [Tryz.f122,go_sem,seval];refine (F4 n hn).use ?_;simp (disch:=omega) only [go_sem,seval]
theorem Pi (n:Nat) (hn:n<100):PC 89 [.p (.int .i64 (n:Int))] (.str (dec n)):=by
 refine Zc Tryz.func89 rfl Mz ?_;simp (disch:=omega) only [Tryz.f89,go_sem,seval];refine (IS n hn).use ?_;simp (disch:=omega) only [go_sem,seval]
theorem Bp (n a b:Int):PC 249 [.p (.int .i64 n),.p (.int .i64 a),.p (.int .i64 b)] (.bool (decide (a<=n)&&decide (n<=b))):=by
 refine Zc Tryz.func249 rfl Pb ?_;simp (disch:=omega) only [Tryz.f249,go_sem,seval]
 repeat' (first | (refine gT ?_ ?_<;>intro hq<;>simp (disch:=omega) only [Sh.out hq,go_sem,seval,↓reduceIte]) | (refine KV (fun hq=> ?_) (fun hq=> ?_)<;>(try simp only [decide_eq_true_eq,decide_eq_false_iff_not,Classical.not_not] at hq)<;>simp (disch:=omega) only [Sh.out hq,go_sem,seval]) | (refine J3 (fun hq=> ?_) (fun hq=> ?_)<;>(try simp only [decide_eq_true_eq,decide_eq_false_iff_not,Classical.not_not] at hq)<;>simp (disch:=omega) only [Sh.out hq,go_sem,seval]))
 all_goals (simp;first | done | omega)
theorem G2 (l:List Pt) (c:Bool) (hl:YD l):PC 252 [.p (.list c (l.map Ec))] (.list true []):=by
 obtain ⟨⟨hl1,hl2⟩,hpt⟩:=hl;refine Zc Tryz.func252 rfl Pe ?_
 have e1: ¬(l.length:Int)=0:=Za
 have e2: ¬(16:Int)<(l.length:Int):=Za
 simp (disch:=omega) only [Tryz.f252,e1,e2,go_sem,seval];refine Zn [0,19,20] (fun k:Nat=> [(3,.p (.list true [])),(21,.p (.int .i64 k))]) (fun _=> []) (fun k=>k<=l.length) (fun k=>l.length-k) 0 Zb (Weak.mk ?_) ?_
 ·simp (disch:=omega) only [go_sem,seval,↓reduceIte]
 ·intro k hk;refine Zj ?_;refine cD ?_ ?_<;>intro h<;>simp (disch:=omega) only [Sh.out h,go_sem,seval,↓reduceIte]
  ·have hk2:k<l.length:=Za
   obtain ⟨⟨p1,p2,p3,p4⟩,q⟩:=hpt k hk2;refine (Pi k Za).use (Zj ?_);refine (Bp (nth l k).t 0 4096).use (Zj ?_);simp (disch:=omega) only [p1,p2,go_sem,seval];refine gF ?_ ?_<;>intro h3<;>simp (disch:=omega) only [Sh.out h3,go_sem,seval,↓reduceIte]
   ·omega
   ·refine cD ?_ ?_<;>intro h4<;>simp (disch:=omega) only [Sh.out h4,go_sem,seval,↓reduceIte]
    ·omega
    ·refine WK (Zj ?_);refine gT ?_ ?_<;>intro h5<;>simp (disch:=omega) only [Sh.out h5,go_sem,seval,↓reduceIte]
     ·obtain ⟨r1,r2⟩:=q Za;refine gF ?_ ?_<;>intro h6<;>simp (disch:=omega) only [Sh.out h6,go_sem,seval,↓reduceIte]
      ·omega
      ·refine cD ?_ ?_<;>intro h7<;>simp (disch:=omega) only [Sh.out h7,go_sem,seval,↓reduceIte]
       ·omega
       ·exact ⟨k+1,Za,Za,wk⟩
     ·exact ⟨k+1,Za,Za,wk⟩
theorem C4 (p:Pt) (t:Int) (h:0<=p.t/\p.t<=4096) (ht:0<=t/\t<=1073741824):PC 254 [.p (Ec p),.p (.int .i64 t)] (.int .i64 (p.t-t)):=by
 refine Zc Tryz.func254 rfl Pg ?_;simp (disch:=omega) only [Tryz.f254,go_sem,seval,↓reduceIte]
theorem Lx (l:List Pt) (c:Bool) (hl:YD l):PC 250 [.p (.list c (l.map Ec))] (.bool true):=by
 refine Zc Tryz.func250 rfl Pc ?_;simp (disch:=omega) only [Tryz.f250,go_sem,seval];refine (G2 l c hl).use ?_;simp (disch:=omega) only [go_sem,seval]
structure PosT (l:List Pt) (t:Int) (i:Nat):Prop where
 le:i<=l.length
 lo: ∀j,j<i->(nth l j).t<t
 hi: ∀j,i<=j->j<l.length->t<=(nth l j).t
theorem aP (l:List Pt) (c:Bool) (t:Int) (i:Nat) (hl:YD l) (ht:0<=t/\t<=1073741824) (hi:PosT l t i):PT 253 [.p (.list c (l.map Ec)),.p (.int .i64 t),.fn (.func 254) [] []] [.p (.int .i64 (i:Int)),.p (.bool (decide (i<l.length)&&decide ((nth l i).t=t)))]:=by
 obtain ⟨⟨hl1,hl2⟩,hpt⟩:=hl;obtain ⟨hi1,hi2,hi3⟩:=hi;refine Ze [] Tryz.func253 rfl Pf ?_;simp (disch:=omega) only [Tryz.f253,go_sem,seval];refine Zn [0,1,2,8] (fun q:Nat×Nat=> [(9,.p (.int .i64 q.1)),(10,.p (.int .i64 q.2))]) (fun _=> []) (fun q=>q.1<=i/\i<=q.2/\q.2<=l.length) (fun q=>q.2-q.1) (0,l.length) (by simp;omega) (Weak.mk ?_) ?_
 ·simp (disch:=omega) only [go_sem,seval,↓reduceIte]
 ·rintro ⟨a,b⟩ ⟨h1,h2,h3⟩;simp only at h1 h2 h3;refine Zj ?_;refine cD ?_ ?_<;>intro h<;>simp (disch:=omega) only [Sh.out h,go_sem,seval,↓reduceIte]
  ·have hm:(a+b) / 2<l.length:=Za
   obtain ⟨⟨p1,p2,p3,p4⟩,q⟩:=hpt _ hm
   have hs:((a:Int)+(b:Int)).fdiv (2^min 1 64)=(((a+b) / 2:Nat):Int):=by
    grind
   have em:((((a+b) / 2:Nat)):Int).toNat=(a+b) / 2:=Za
   have hnb:((a+b) / 2<i)↔(nth l ((a+b) / 2)).t-t<0:=by
    grind
   rw [hs];refine Zj ?_;refine (C4 (nth l ((a+b) / 2)) t ⟨p1,p2⟩ ht).use (Zj ?_);refine cD ?_ ?_<;>intro h4<;>simp (disch:=omega) only [Sh.out h4,go_sem,seval,↓reduceIte]
   ·exact ⟨((a+b) / 2+1,b),⟨Za,h2,h3⟩,Za,wk⟩
   ·exact ⟨(a,(a+b) / 2),⟨h1,Za,Za⟩,Za,wk⟩
  ·have:a=i:=Za
   subst this;refine gT ?_ ?_<;>intro h4<;>simp (disch:=omega) only [Sh.out h4,go_sem,seval,↓reduceIte]
   ·have hm:a<l.length:=Za
    obtain ⟨⟨p1,p2,p3,p4⟩,q⟩:=hpt _ hm;refine (C4 (nth l a) t ⟨p1,p2⟩ ht).use (Zj ?_);have e5:((nth l a).t-t=0)=((nth l a).t=t):=propext Za;exact we (by simp (disch:=omega) only [e5,hm,go_sem,seval])
   ·have hm: ¬a<l.length:=Za
    exact we (by simp (disch:=omega) only [hm,go_sem,seval])
structure Lab where
 ready:Int
 since:Int
 she:She
 deriving Inhabited
def zShe : She:=⟨false,0,true,[],0,0⟩
def XE : Lab:=⟨0,0,zShe⟩
def ZN (t:Typ) (L:Lab) (b:Bool):Int:=if b=true then L.ready+t.rest else L.ready
def WA (L:Lab) (b:Bool):Int:=if b=true then 0 else L.since
def MF (l:List Tim) (k:Nat) (d:Int) (b:Bool):List Tim:=l.set k { nth l k with dep:=d,rest:=b }
def Z4 (k:Nat) (d:Int) (b:Bool) (s:She):She:=if k=0 then { s with rest:=b,dep:=d } else { s with times:=MF s.times (k-1) d b }
def EJ (t:Typ) (sp:List Stp) (k:Nat):Int:=if k=0 then t.src else (nth sp (k-1)).place
def ML (t:Typ) (sp:List Stp) (k:Nat):Int:=if k=sp.length then t.dst else (nth sp k).place
def Ao (x:Inst) (t:Typ) (sp:List Stp) (k:Nat) (d:Int):Int×Int×Int:=Q8 x.net t.prof (EJ t sp k) (ML t sp k) d
def Yw (t:Typ) (sp:List Stp) (k:Nat) (g:Int×Int×Int) (d s:Int) (h:She):Lab×Int :=
 if ¬g.2.2=0 then (XE,12)
 else if k=sp.length then
  if t.cls<g.1 then (XE,15) else if t.drive<s+g.1-d then (XE,16)
  else (⟨g.1,s+g.1-d,{ h with fin:=g.1,miles:=h.miles+g.2.1 }⟩,0)
 else if (nth sp k).cls<max g.1 (nth sp k).opn then (XE,14)
 else if t.drive<s+g.1-d then (XE,16)
 else (⟨max g.1 (nth sp k).opn+(nth sp k).serv,s+g.1-d,{ h with times_c:=false,times:=h.times++ [⟨g.1,max g.1 (nth sp k).opn,0,false⟩],miles:=h.miles+g.2.1 }⟩,0)
def Xg (x:Inst) (t:Typ) (sp:List Stp) (k:Nat) (L:Lab) (b:Bool):Lab×Int :=
 Yw t sp k (Ao x t sp k (ZN t L b)) (ZN t L b) (WA L b) (Z4 k (ZN t L b) b L.she)
def ZT (x:Inst) (t:Typ) (sp:List Stp) (k:Nat) (L:Lab) (b:Bool):Option Lab:=if (Xg x t sp k L b).2=0 then some (Xg x t sp k L b).1 else none
def Z2 (x:Inst) (t:Typ) (sp:List Stp):Nat->Lab->List Bool->Lab×Int
 | _,L,[]=>(L,0)
 | k,L,b::bs=>if (Xg x t sp k L b).2=0 then Z2 x t sp (k+1) (Xg x t sp k L b).1 bs else (XE,(Xg x t sp k L b).2)
def ZW (t:Typ) (st:Int):Lab:=⟨max t.opn st,0,zShe⟩
theorem YE {x:Inst} {t:Typ} {sp:List Stp} : ∀(bs:List Bool) (k:Nat) (L:Lab),Wj (ZT x t sp) k L bs=if (Z2 x t sp k L bs).2=0 then some (Z2 x t sp k L bs).1 else none
 | [],k,L=>by rfl
 | b::bs,k,L=>by
  rw [Wj,Z2,ZT]
  by_cases h:(Xg x t sp k L b).2=0
  ·simp only [h,if_true];exact YE bs (k+1) _
  ·simp [h]
structure TrpOk (x:Inst) (t:Typ) (sp:List Stp):Prop where
 net:netR x.net
 mil: ∀a∈x.net.arcs,0<=a.miles/\a.miles<=10000
 opn:0<=t.opn/\t.opn<=t.cls/\t.cls<=4096
 drv:1<=t.drive/\t.drive<=4096
 rst:0<=t.rest/\t.rest<=4096
 stp: ∀s∈sp,0<=s.opn/\s.opn<=s.cls/\s.cls<=4096/\0<=s.serv/\s.serv<=4096
 len:sp.length<=20
structure LabR (k:Nat) (L:Lab):Prop where
 rdy:0<=L.ready/\L.ready<=8192
 snc: -(12288*(k:Int))<=L.since/\L.since<=4096
 mil:0<=L.she.miles/\L.she.miles<=10000*(k:Int)
theorem IP {n:Net} {pr f t τ:Int} (hn:netR n) (hm: ∀a∈n.arcs,0<=a.miles/\a.miles<=10000) (hτ:0<=τ/\τ<=1073741824):(0<=(Q8 n pr f t τ).1/\(Q8 n pr f t τ).1<=1107369984)/\(0<=(Q8 n pr f t τ).2.1/\(Q8 n pr f t τ).2.1<=10000):=by
 unfold Q8
 split
 ·simp
 ·split
  ·grind
  ·split
   ·rename_i h;have hA:=Uf h;have h1:=K0 (hn.2.2 _ hA).1 hτ;have h2:=Vb (t:=τ) (fun p hp=>((hn.2.2 _ hA).2.2 p hp).2.2) _ (Nat.le_refl _);have h3:=(hn.2.2 _ hA).2.1
    grind [DV]
   ·simp
theorem Qe {x t sp k L} (h:TrpOk x t sp) (hl:LabR k L) (b:Bool):0<=ZN t L b/\ZN t L b<=12288:=by
 have:=h.rst;have:=hl.rdy
 grind [ZN]
theorem Be {k L} (hl:LabR k L) (b:Bool): -(12288*(k:Int))<=WA L b/\WA L b<=4096:=by
 have:=hl.snc
 grind [WA]
theorem De {x t sp k L} (h:TrpOk x t sp) (hl:LabR k L) (b:Bool):(0<=(Ao x t sp k (ZN t L b)).1/\(Ao x t sp k (ZN t L b)).1<=1107369984)/\(0<=(Ao x t sp k (ZN t L b)).2.1/\(Ao x t sp k (ZN t L b)).2.1<=10000):=by
 have:=Qe h hl b;exact IP h.net h.mil Za
theorem UD {k d b s} :(Z4 k d b s).miles=s.miles:=by grind [Z4]
theorem Ey {k d b s} :(Z4 k d b s).fin=s.fin:=by grind [Z4]
theorem Um {k d b s} :(Z4 k d b s).times.length=s.times.length:=by grind [Z4,MF]
theorem Dq {x t sp k L b} (h:TrpOk x t sp) (hk:k<=sp.length) (hl:LabR k L) (he:(Xg x t sp k L b).2=0):LabR (k+1) (Xg x t sp k L b).1:=by
 have h1:=Qe h hl b;have h2:=Be hl b;obtain ⟨h3,h4⟩:=De h hl b;have h5:=hl.mil;have h6:=h.opn;have h7:=h.drv;have hm:(Z4 k (ZN t L b) b L.she).miles=L.she.miles:=UD;unfold Xg at he ⊢
 generalize Ao x t sp k (ZN t L b)=g at *
 generalize ZN t L b=d at *
 generalize WA L b=s at *
 generalize Z4 k d b L.she=m at *
 unfold Yw at he ⊢
 split at he
 ·simp at he
 ·rename_i c1;rw [if_neg c1]
  split at he
  ·rename_i c2;rw [if_pos c2]
   split at he
   ·simp at he
   ·rename_i c3;rw [if_neg c3]
    split at he
    ·simp at he
    ·rename_i c4;rw [if_neg c4];exact ⟨by grind,by grind,by grind⟩
  ·rename_i c2;rw [if_neg c2];have h8:=h.stp _ (Zq (show k<sp.length by omega))
   split at he
   ·simp at he
   ·rename_i c3;rw [if_neg c3]
    split at he
    ·simp at he
    ·rename_i c4;rw [if_neg c4];exact ⟨by grind,by grind,by grind⟩
theorem QD {x t sp k L b} (hl:L.she.times.length=k) (he:(Xg x t sp k L b).2=0) (hk:k<sp.length):(Xg x t sp k L b).1.she.times.length=k+1:=by
 have hm:(Z4 k (ZN t L b) b L.she).times.length=L.she.times.length:=Um;unfold Xg at he ⊢
 generalize Ao x t sp k (ZN t L b)=g at *
 generalize ZN t L b=d at *
 generalize WA L b=s at *
 generalize Z4 k d b L.she=m at *
 have hk2: ¬k=sp.length:=Za
 unfold Yw at he ⊢
 grind
def Zs (m x:Lab):Bool:=decide (m.ready=x.ready)&&decide (m.since<=x.since)
theorem BL {x t sp k} {m y z:Lab} {b:Bool} (hb:Zs m y=true) (hn:ZT x t sp k y b=some z): ∃u,ZT x t sp k m b=some u/\Zs u z=true:=by
 simp only [Zs,Bool.and_eq_true,decide_eq_true_eq] at hb;obtain ⟨hb1,hb2⟩:=hb
 have hd:ZN t m b=ZN t y b:=by simp [ZN,hb1]
 have hs:WA m b<=WA y b:=by grind [WA]
 unfold ZT at hn ⊢;unfold Xg at hn ⊢;rw [hd]
 generalize Ao x t sp k (ZN t y b)=g at *
 generalize ZN t y b=d at *
 generalize WA y b=s at *
 generalize WA m b=s2 at *
 generalize Z4 k d b y.she=h1 at *
 generalize Z4 k d b m.she=h2 at *
 unfold Yw at hn ⊢
 by_cases c1:g.2.2=0
 ·by_cases c2:k=sp.length
  ·simp only [c1,c2,not_true,if_true,if_false] at hn ⊢
   by_cases c3:t.cls<g.1
   ·grind
   ·by_cases c4:t.drive<s+g.1-d
    ·grind
    ·have c5: ¬t.drive<s2+g.1-d:=Za
     simp only [c3,c4,if_false,if_true,Option.some.injEq] at hn;subst hn;refine ⟨_,by simp only [c3,c5,if_false,if_true];rfl,?_⟩;simp [Zs];omega
  ·simp only [c1,c2,not_true,if_false] at hn ⊢
   by_cases c3:(nth sp k).cls<max g.1 (nth sp k).opn
   ·grind
   ·by_cases c4:t.drive<s+g.1-d
    ·grind
    ·have c5: ¬t.drive<s2+g.1-d:=Za
     simp only [c3,c4,if_false,if_true,Option.some.injEq] at hn;subst hn;refine ⟨_,by simp only [c3,c5,if_false,if_true];rfl,?_⟩;simp [Zs];omega
 grind
def XL (L:Lab):Int:=L.she.fin
theorem AN {x t sp} {y z:Lab} {b:Bool} (hn:ZT x t sp sp.length y b=some z):z.she.fin=z.ready:=by
 unfold ZT Xg Yw at hn
 grind
theorem Jy {x t sp} (ch:Nat->List Bool) (L:Lab):Yp XL none (Ws Zs (ZT x t sp) ch (sp.length+1) 0 [L])=Yp XL none (XN (ZT x t sp) ch (sp.length+1) 0 L):=by
 have h:=Dj XL Zs (ZT x t sp) ch (n:=sp.length+1) (Inv:=fun k y=>k=sp.length+1->y.she.fin=y.ready)
  (fun k y b z _ hn hk=>by
   grind [AN]) (fun k m y b z _ _ hb hn=>BL hb hn)
  (fun m y h1 h2 hb=>by
   simp only [Zs,Bool.and_eq_true,decide_eq_true_eq] at hb
   rw [XL,XL,h1 rfl,h2 rfl];omega) (sp.length+1) 0 [L] Za (fun y _ hk=>Za)
 rw [h];simp
def Yb (r:List Bool) (k:Nat):List Bool:=match r[k]? with | some b=> [b] | none=> [false,true]
theorem Da (r:List Bool) (n:Nat) (hn:r.length<=n): ∀(j k:Nat),k+j=r.length->Km (Yb r) (n-k) k=(Xn (List.replicate (n-r.length) false)).map (r.drop k++ ·)
 | 0,k,h=>by
  have hk:k=r.length:=Za
  subst hk;rw [Aj (n:=n) _ _ _ (fun q hq=>by grind [Yb])];simp
 | j+1,k,h=>by
  have e:n-k=(n-(k+1))+1:=Za
  have hlt:k<r.length:=Za
  rw [e,Km,Da r n hn j (k+1) Za]
  have:Yb r k= [r[k]]:=by simp [Yb,hlt]
  rw [this,List.flatMap_cons,List.flatMap_nil,List.append_nil,List.map_map,List.drop_eq_getElem_cons hlt]
  rfl
theorem Jp (r:List Bool) (n:Nat) (hn:r.length<=n):Km (Yb r) n 0=(Xn (List.replicate (n-r.length) false)).map (r++ ·):=by
 have:=Da r n hn r.length 0 Za
 grind
def XD (r:List Bool) (n:Nat):List (List Bool):=(Xn (List.replicate (n-r.length) false)).map (r++ ·)
def YS (r:List Bool) (n:Nat):List Bool:=r++List.replicate (n-r.length) false
def YH (x:Inst) (t:Typ) (sp:List Stp) (st:Int) (r:List Bool):She×Int :=
 match Yp XL none ((XD r (sp.length+1)).filterMap (Wj (ZT x t sp) 0 (ZW t st))) with
 | some L=>(L.she,0)
 | none=>(zShe,(Z2 x t sp 0 (ZW t st) (YS r (sp.length+1))).2)
theorem Ke {x t sp} {st:Int} {r:List Bool} (hr:r.length<=sp.length+1):YH x t sp st r=match Yp XL none (Ws Zs (ZT x t sp) (Yb r) (sp.length+1) 0 [ZW t st]) with
 | some L=>(L.she,0)
 | none=>(zShe,(Z2 x t sp 0 (ZW t st) (YS r (sp.length+1))).2):=by
 rw [Jy,XN,Jp r _ hr];rfl
theorem AZ {x t sp} : ∀(bs:List Bool) (k:Nat) (L:Lab),L.she.times.length=k->k+bs.length=sp.length+1->0<bs.length->(Z2 x t sp k L bs).2=0->(Z2 x t sp k L bs).1.she.times.length=sp.length
 | [],k,L,h1,h2,h3,h=>by simp at h3
 | b::bs,k,L,h1,h2,_,h=>by
  rw [Z2] at h ⊢
  by_cases h4:(Xg x t sp k L b).2=0
  ·simp only [h4,if_true] at h ⊢
   cases bs with
   | nil =>
    simp at h2;subst h2;rw [Z2];unfold Xg at h4 ⊢;unfold Yw at h4 ⊢
    split at h4
    ·simp at h4
    ·rename_i c1;rw [if_neg c1];simp only [if_true] at h4 ⊢
     split at h4
     ·simp at h4
     ·rename_i c2;rw [if_neg c2]
      split at h4
      ·simp at h4
      simp_all [if_neg,Um]
   | cons b2 bs =>
    simp at h2;exact AZ (b2::bs) (k+1) _ (QD h1 h4 Za) (by simp;omega) Zb h
  grind
theorem bestF_len {x t sp} {st:Int} {r:List Bool} (hr:r.length<=sp.length+1) (h:(YH x t sp st r).2=0):(YH x t sp st r).1.times.length=sp.length:=by
 unfold YH at h ⊢
 cases hf:Yp XL none ((XD r (sp.length+1)).filterMap (Wj (ZT x t sp) 0 (ZW t st))) with
 | none =>
  rw [hf] at h;simp only at h ⊢;exfalso
  have hm:YS r (sp.length+1)∈XD r (sp.length+1):=by
   grind [XD,YS,Wg]
  have h2:Wj (ZT x t sp) 0 (ZW t st) (YS r (sp.length+1))=some (Z2 x t sp 0 (ZW t st) (YS r (sp.length+1))).1:=by rw [YE,if_pos h]
  have h3:(Z2 x t sp 0 (ZW t st) (YS r (sp.length+1))).1∈(XD r (sp.length+1)).filterMap (Wj (ZT x t sp) 0 (ZW t st)):=List.mem_filterMap.2 ⟨_,hm,h2⟩;generalize (XD r (sp.length+1)).filterMap (Wj (ZT x t sp) 0 (ZW t st))=l at hf h3
  cases l with
  | nil=>simp at h3
  | cons a l =>
   rw [Yp] at hf;obtain ⟨z,e,_⟩:=Y1 XL l a
   grind
 | some L =>
  simp only;have hm:=fmL_mem _ _ hf;obtain ⟨bs,hbs,hrun⟩:=List.mem_filterMap.1 hm;rw [YE] at hrun
  split at hrun
  ·rename_i h5;simp at hrun;subst hrun;obtain ⟨q,hq,rfl⟩:=List.mem_map.1 hbs;have hql:=fromB_len _ _ hq;simp at hql;exact AZ _ 0 _ rfl (by grind) (by grind) h5
  ·cases hrun
where
 fmL_mem: ∀(l:List Lab) (L:Lab),Yp XL none l=some L->L∈l
 | [],L,h=>by simp [Yp] at h
 | a::l,L,h=>by
  rw [Yp] at h;exact fmL_mem2 l a L h
 fmL_mem2: ∀(l:List Lab) (a L:Lab),Yp XL (some a) l=some L->L∈a::l
 | [],a,L,h=>by grind [Yp]
 | y::l,a,L,h=>by
  rw [Yp] at h
  split at h
  ·have:=fmL_mem2 l y L h;grind
  ·have:=fmL_mem2 l a L h;grind
 fromB_len: ∀(l q:List Bool),q∈Xn l->q.length=l.length
 | [],q,h=>by grind [Xn]
 | b::bs,q,h=>by
  rw [Xn] at h
  split at h
  ·obtain ⟨q',hq,rfl⟩:=List.mem_map.1 h;simp [fromB_len bs q' hq]
  ·rcases List.mem_append.1 h with h | h
   ·obtain ⟨q',hq,rfl⟩:=List.mem_map.1 h;simp [fromB_len bs q' hq]
   ·obtain ⟨q',hq,rfl⟩:=List.mem_map.1 h;simp [fromB_len (List.replicate bs.length false) q' hq]
 termination_by l=>l.length
 decreasing_by all_goals simp
def stopV (x:Inst) (v:Vis):Stp:=if v.drp=true then (nth x.orders v.order.toNat).drp else (nth x.orders v.order.toNat).pick
def Xc (x:Inst) (l:List Vis):List Stp:=l.map (stopV x)
def YU (t:Typ) (s:Int):Bool:=decide (0<=t.skills)&&decide (0<=s)&&(List.range 63).all fun i=> !s.toNat.testBit i||t.skills.toNat.testBit i
def Uy (a c:List Int):Bool:=decide (a.length=c.length)&&(List.range a.length).all fun i=>decide (nth a i<=nth c i)
def Qu (x:Inst) (c:List Int) (l:List Vis):Bool:=(List.range (l.length+1)).all fun n=>Uy (X5 x l n) c
def ZM (x:Inst) (r:Rte):Typ:=nth x.types r.typ.toNat
def Qh (l:List Vis) (i:Nat):Bool:= !((l.take i).any fun v=>decide (v.order=(nth l i).order))
def VF (k t:Int):Bool:=decide (k≠ -1)&&decide (k≠t)
def chgF (x:Inst) (l:List Vis) (t:Int):Nat->Int×Int
 | 0=>(0,0)
 | n+1=>if Qh l n=true then ((chgF x l t n).1+(if VF (nth x.orders (nth l n).order.toNat).now t=true then 1 else 0),(chgF x l t n).2+(if VF (nth x.orders (nth l n).order.toNat).last t=true then 1 else 0)) else chgF x l t n
def LJ (x:Inst) (r:Rte) (s:She):Sco :=
 ⟨(ZM x r).fixed+(ZM x r).perMile*s.miles+(ZM x r).perTick*(s.fin-(ZM x r).opn),(chgF x r.visits r.typ r.visits.length).1,(chgF x r.visits r.typ r.visits.length).2,(s.fin-(ZM x r).opn).tdiv 64*(s.fin-(ZM x r).opn).tdiv 64⟩
def X2 (x:Inst) (r:Rte):Int :=
 if ¬(0<=r.typ/\r.typ<(x.types.length:Int)) then 2
 else if ¬Z1 x r.visits=0 then Z1 x r.visits
 else if (r.visits.any fun v=> !YU (ZM x r) (nth x.orders v.order.toNat).skills)=true then 18
 else if Qu x (ZM x r).cap r.visits=false then 17
 else if ¬(0<=r.start/\r.start<=4096/\r.rests.length<=r.visits.length+1) then 2
 else 0
def Z8 (x:Inst) (r:Rte):She×Int:=YH x (ZM x r) (Xc x r.visits) r.start r.rests
def ZD (x:Inst) (r:Rte):Int:=if X2 x r=0 then (Z8 x r).2 else X2 x r
def ZP (x:Inst) (r:Rte):She:=if ZD x r=0 then (Z8 x r).1 else zShe
def Jo (x:Inst) (r:Rte):Sco:=if ZD x r=0 then LJ x r (Z8 x r).1 else zSco
def inB (x:Inst) (v:Vis):Bool:=decide (0<=v.order)&&decide (v.order<(x.orders.length:Int))
def EX (x:Inst) (v:Vis):Bool:=inB x v&&decide (0<=(stopV x v).place)
@[go_sem high] theorem iC {k k':IntKind} {a b:Int} :BE false [.p (.int k a),.p (.int k' b)]=some (.int k (max a b)):=by
 grind [BE]
theorem ZI {x:Inst} {l:List Vis} :(Xc x l).length=l.length:=by simp [Xc]
theorem CE {x:Inst} {l:List Vis} {k:Nat} (h:k<l.length):nth (Xc x l) k=stopV x (nth l k):=by
 grind [Zh,Xc]
structure LdOk (x:Inst):Prop where
 ord:x.orders.length<=10
 typ:x.types.length<=1048576
 dim:1<=dimsOf x.types/\dimsOf x.types<=3
 load: ∀o∈x.orders,(o.load.length:Int)=dimsOf x.types/\ ∀n∈o.load,0<=n/\n<=1000
theorem VJ {x:Inst} (h:InstOk x):LdOk x:=by
 have ht:=h.types.1;simp only [rng,decide_eq_true_eq] at ht;have ho:=h.orders
 have h0:0<x.types.length:=Za
 have hcap:=h.types.2 0 h0;unfold DG at hcap;obtain ⟨⟨⟨⟨⟨⟨⟨⟨_,_⟩,_⟩,_⟩,hcap⟩,_⟩,_⟩,_⟩,_⟩:=hcap;simp only [FF,Bool.and_eq_true,decide_eq_true_eq,rng] at hcap;refine ⟨ho.1,Za,Za,fun o hm=> ?_⟩;obtain ⟨i,hi,rfl⟩:=List.mem_iff_getElem.1 hm;have:=(ho.2 i hi).load;rw [Zh hi] at this
 simp_all [loadOk,rng]
def Mv (l:List Int):PV:= .list false (l.map eI)
@[go_sem] theorem NI (l:List Int):Mv l= .list false (l.map eI):=Eq.trans rfl rfl
def WR (x:Inst) (l:List Vis):List (List Int):=(List.range (l.length+1)).map (X5 x l)
def Cx (c m o w:Int):AM.Obj:= .cells [.p (.int .i64 c),.p (.int .i64 m),.p (.int .i64 o),.p (.int .i64 w)]
theorem Aa {x:Inst} {l:List Vis} {t:Int} : ∀n:Nat,(0<=(chgF x l t n).1/\(chgF x l t n).1<=n)/\(0<=(chgF x l t n).2/\(chgF x l t n).2<=n)
 | 0=>by simp [chgF]
 | n+1=>by
  have ih:=Aa (x:=x) (l:=l) (t:=t) n
  grind [chgF]
theorem SqOk.len {x:Inst} {l:List Vis} (h:SqOk x l) (hn:x.orders.length<=10):l.length<=20:=by
 have h1:=List.Nodup.length_le_of_subset (l₁ :=l) (l₂ :=(List.range 10).flatMap fun i:Nat=> [(⟨(i:Int),false⟩:Vis),⟨(i:Int),true⟩]) h.nd (fun v hv=>by
  obtain ⟨v1,v2⟩:=h.inr v hv;rw [List.mem_flatMap];refine ⟨v.order.toNat,List.mem_range.2 Za,?_⟩;obtain ⟨o,d⟩:=v
  have e:((o.toNat:Nat):Int)=o:=by grind
  simp_all)
 have h2:((List.range 10).flatMap fun i:Nat=> [(⟨(i:Int),false⟩:Vis),⟨(i:Int),true⟩]).length=20:=rfl;omega
theorem SqOk.vis {x:Inst} {l:List Vis} (h:SqOk x l) {v:Vis} (hv:v∈l):EX x v=true:=by
 obtain ⟨v1,v2⟩:=h.inr v hv;obtain ⟨i,hi⟩: ∃i:Nat,v.order=(i:Int):=⟨v.order.toNat,Za⟩;have ho:=h.own (i:=i) ⟨v,hv,hi⟩
 have hpl:0<=(stopV x v).place:=by
  unfold stopV;rw [hi,Int.toNat_natCast]
  cases hd:v.drp with
  | true=>exact ho.isD (by rw [<- hi,<- hd];exact hv)
  | false=>exact ho.isP (by rw [<- hi,<- hd];exact hv)
 simp [EX,inB,v1,v2,hpl]
theorem I8 {n:Net} (h:netOk n):netR n/\ ∀a∈n.arcs,0<=a.miles/\a.miles<=10000:=by
 obtain ⟨⟨⟨h1,_⟩,h2⟩,h3⟩:=h
 have ha: ∀a∈n.arcs,Nb a/\0<=a.miles/\a.miles<=10000:=fun a hm=>by
  obtain ⟨i,hi,rfl⟩:=List.mem_iff_getElem.1 hm;have:=h3 i hi;unfold CU at this;rw [Zh hi] at this;obtain ⟨⟨⟨⟨⟨_,g1⟩,_⟩,g2⟩,g3⟩,g4⟩:=this;refine ⟨⟨g2,g3,fun p hp=> ?_⟩,g1.2.2.1,g1.2.2.2.1⟩;obtain ⟨j,hj,rfl⟩:=List.mem_iff_getElem.1 hp
  simp_all [KG,Zh,P4,rng]
 exact ⟨⟨Za,Za,fun a hm=>(ha a hm).1⟩,fun a hm=>(ha a hm).2⟩
theorem Bm {x:Inst} (hx:InstOk x) {i:Nat} (hi:i<x.types.length):(0<=(nth x.types i).opn/\(nth x.types i).opn<=(nth x.types i).cls/\(nth x.types i).cls<=4096)/\(1<=(nth x.types i).drive/\(nth x.types i).drive<=4096)/\(0<=(nth x.types i).rest/\(nth x.types i).rest<=4096) /\
  (0<=(nth x.types i).fixed/\(nth x.types i).fixed<=100000/\0<=(nth x.types i).perMile/\(nth x.types i).perMile<=100/\0<=(nth x.types i).perTick/\(nth x.types i).perTick<=100)/\(0<=(nth x.types i).skills/\(nth x.types i).skills<=1073741823):=by
 have ht:=hx.types.2 i hi
 simp_all [DG,rng]
theorem Y9 {x:Inst} {r:Rte} (hx:InstOk x) (ht:0<=r.typ/\r.typ<(x.types.length:Int)) (h:SqOk x r.visits):TrpOk x (ZM x r) (Xc x r.visits):=by
 have hti:r.typ.toNat<x.types.length:=Za
 obtain ⟨t1,t2,t3,_⟩:=Bm hx hti;obtain ⟨n1,n2⟩:=I8 hx.net;refine ⟨n1,n2,t1,t2,t3,fun s hs=> ?_,by rw [ZI];exact h.len hx.orders.1⟩;obtain ⟨v,hv,rfl⟩:=List.mem_map.1 hs;obtain ⟨v1,v2⟩:=h.inr v hv
 have hi:v.order.toNat<x.orders.length:=Za
 have ho:=hx.orders.2 _ hi;have hvis:=h.vis hv;have hp:=ho.pstp;have hd:=ho.dstp;simp only [stpOk,decide_eq_true_eq] at hp hd;simp only [EX,Bool.and_eq_true,decide_eq_true_eq] at hvis;have h3:=hvis.2;unfold stopV at h3 ⊢
 grind
theorem A0 {x t sp} (h:TrpOk x t sp): ∀(bs:List Bool) (k:Nat) (L:Lab),k+bs.length=sp.length+1->LabR k L->(Z2 x t sp k L bs).2=0->LabR (sp.length+1) (Z2 x t sp k L bs).1/\(bs≠ []->(Z2 x t sp k L bs).1.she.fin=(Z2 x t sp k L bs).1.ready)
 | [],k,L,hk,hl,h0=>by
  simp at hk;subst hk;exact ⟨hl,fun h=>absurd rfl h⟩
 | b::bs,k,L,hk,hl,h0=>by
  simp at hk;rw [Z2] at h0 ⊢
  split at h0
  ·rename_i c;rw [if_pos c];obtain ⟨h1,h2⟩:=A0 h bs (k+1) _ Za (Dq h Za hl c) h0;refine ⟨h1,fun _=> ?_⟩
   cases bs with
   | nil =>
    simp at hk;subst hk;exact AN (x:=x) (t:=t) (sp:=sp) (y:=L) (b:=b) (by rw [ZT,if_pos c];rfl)
   | cons b2 bs=>grind
  omega
theorem K7 {x t sp} {st:Int} {r:List Bool} (h:TrpOk x t sp) (hs:0<=st/\st<=4096) (hr:r.length<=sp.length+1) (h0:(YH x t sp st r).2=0):(0<=(YH x t sp st r).1.fin/\(YH x t sp st r).1.fin<=8192)/\(0<=(YH x t sp st r).1.miles/\(YH x t sp st r).1.miles<=210000):=by
 have hL0:LabR 0 (ZW t st):=⟨by have:=h.opn;grind [ZW],by simp [ZW],by simp [ZW,zShe]⟩;have hl:=h.len
 have key: ∀bs∈XD r (sp.length+1),(Z2 x t sp 0 (ZW t st) bs).2=0->(0<=(Z2 x t sp 0 (ZW t st) bs).1.she.fin/\(Z2 x t sp 0 (ZW t st) bs).1.she.fin<=8192)/\(0<=(Z2 x t sp 0 (ZW t st) bs).1.she.miles/\(Z2 x t sp 0 (ZW t st) bs).1.she.miles<=210000):=fun bs hbs he=>by
  obtain ⟨q,hq,rfl⟩:=List.mem_map.1 hbs;have hql:=bestF_len.fromB_len _ _ hq;simp at hql
  have hne:r++q≠ []:=fun e=>by
   simp_all
  obtain ⟨g1,g2⟩:=A0 h (r++q) 0 _ (by simp;omega) hL0 he;rw [g2 hne];have:=g1.rdy;have:=g1.mil;omega
 unfold YH at h0 ⊢
 cases hf:Yp XL none ((XD r (sp.length+1)).filterMap (Wj (ZT x t sp) 0 (ZW t st))) with
 | some L =>
  simp only;have:=bestF_len.fmL_mem _ _ hf
  grind [YE]
 | none =>
  grind [zShe]
theorem QX {g:FuncId} {args:List V} {a b c:PV} {H:List AM.Obj} {K:V->List AM.Obj->Prop} (h:ACalls Tryz.prog g args [] fun x H'=>x= .tup [.p a,.p b,.p c]/\H'= []) (k:K (.tup [.p a,.p b,.p c]) H) (ha:Zw 0 args=true:=by rfl):ACalls Tryz.prog g args H K:=MN h k ha
def Ah (x:Inst) (r:Rte):V:= .tup [.p (BR (ZP x r)),.p (IC (Jo x r)),.p (.int .i64 (ZD x r))]
theorem Yo {x:Inst} {r:Rte} {e:Int} (h:ZD x r=e) (h0:e≠0):Ah x r= .tup [.p (BR zShe),.p (IC zSco),.p (.int .i64 e)]:=by
 simp_all [Ah,ZP,Jo]
theorem VW {l:List Pt} (hl:YD l) {k:Nat} (hk:k<l.length): ∀j,j<k->(nth l j).t<(nth l k).t:=by
 obtain ⟨_,hpt⟩:=hl
 induction k with
 | zero=>omega
 | succ k ih =>
  intro j hj;obtain ⟨_,q⟩:=hpt (k+1) hk
  grind
theorem Ls {l:List Pt} (hl:YD l) (t:Int): ∃i,PosT l t i:=by
 have: ∀n,n<=l.length-> ∃i,i<=n/\(∀j,j<i->(nth l j).t<t)/\(i<n->t<=(nth l i).t):=by
  intro n
  induction n with
  | zero=>simp
  | succ n ih =>
   grind
 obtain ⟨i,h1,h2,h3⟩:=this l.length (Nat.le_refl _);refine ⟨i,h1,h2,fun j hj hjl=> ?_⟩;rcases Nat.lt_or_eq_of_le hj with h | h
 ·have:=VW hl hjl i h;omega
 grind
theorem H5 {l:List Pt} {t:Int} {i:Nat} (hl:YD l) (h:PosT l t i) (hi:i<l.length) (e:(nth l i).t=t):WI l t=(nth l i).a:=by
 by_cases g:i+1<l.length
 ·have m:=VW hl g i Za;rw [CW g (fun j hj=> ?_) (by grind [V1]),KF]
  ·rw [e,Int.sub_self,Int.zero_mul,Int.zero_add];rw [Int.ediv_eq_zero_of_lt Za Za];omega
  ·have:(nth l (j+1)).t<=t:=by
    rcases Nat.lt_or_eq_of_le (show j+1<=i by omega) with h1 | h1
    ·have:=h.lo _ h1;omega
    grind
   simp [V1];omega
 ·have hi1:i=l.length-1:=Za
  rw [Ka (fun j hj=> ?_)]
  ·split
   ·grind
   ·have:i=0:=by
     by_cases g2:i=0
     ·exact g2
     ·have:=h.lo 0 Za;omega
    grind
  ·have:(nth l (j+1)).t<=t:=by
    rcases Nat.lt_or_eq_of_le (show j+1<=i by omega) with h1 | h1
    ·have:=h.lo _ h1;omega
    grind
   simp [V1];omega
theorem H9 {l:List Pt} {t:Int} (hl:YD l) (h:PosT l t 0) (e: ¬(nth l 0).t=t):WI l t=t+(nth l 0).a-(nth l 0).t:=by
 have h0:=h.hi 0 (Nat.le_refl _) hl.1.1;rw [Ka (fun j hj=> ?_),if_neg Za]
 have:t<(nth l j).t:=by
  by_cases g:j=0
  ·grind
  ·have:=VW hl (show j<l.length by omega) 0 Za;omega
 simp [V1];omega
theorem H8 {l:List Pt} {t:Int} (h:PosT l t l.length) (hl:0<l.length):WI l t=t+(nth l (l.length-1)).a-(nth l (l.length-1)).t:=by
 rw [Ka (fun j hj=> ?_),if_pos (h.lo 0 hl)];have:=h.lo (j+1) hj;simp [V1];omega
theorem Fu {l:List Pt} {t:Int} {i:Nat} (h:PosT l t i) (h0:0<i) (hi:i<l.length) (e: ¬(nth l i).t=t):WI l t=KF (nth l (i-1)) (nth l i) t:=by
 have e1:i-1+1=i:=Za
 have h1:=h.lo (i-1) Za;have h2:=h.hi i (Nat.le_refl _) hi;have:=CW (l:=l) (t:=t) (i:=i-1) Za (fun j hj=>by have:=h.lo (j+1) Za;simp [V1];omega) (by grind [V1]);rw [this,e1]
theorem JU {p q:Pt} {t:Int} (h1:p.t<=t) (h2:t<q.t) (hp:0<=p.t) (hq:q.t<=4096) (ha:p.a<=q.a) (hpa:0<=p.a) (hqa:q.a<=8192) :
  IntKind.i64.wrap (p.a+IntKind.i64.wrap ((IntKind.i64.wrap (IntKind.i64.wrap (IntKind.i64.wrap ((t-p.t)*(q.a-p.a))+(q.t-p.t))-1)).tdiv (q.t-p.t)))=KF p q t:=by
 have hm:=A8 h1 h2 hp hq ha hpa hqa;unfold KF;generalize hM:(t-p.t)*(q.a-p.a)=m at hm
 have hd:0<=(m+(q.t-p.t)-1) / (q.t-p.t)/\(m+(q.t-p.t)-1) / (q.t-p.t)<=m+(q.t-p.t)-1:=by
  refine ⟨Int.ediv_nonneg Za Za,Int.ediv_le_self _ Za⟩
 rw [IntWalk.i64_in m Za,IntWalk.i64_in (m+(q.t-p.t)) Za,IntWalk.i64_in (m+(q.t-p.t)-1) Za,Int.tdiv_eq_ediv_of_nonneg Za,IntWalk.i64_in ((m+(q.t-p.t)-1) / (q.t-p.t)) Za,IntWalk.i64_in _ Za]
 congr 2
 omega
theorem Cf (l:List Pt) (c:Bool) (t:Int) (hl:YD l) (ht:0<=t/\t<=1073741824):PC 251 [.p (.list c (l.map Ec)),.p (.int .i64 t)] (.int .i64 (WI l t)):=by
 obtain ⟨i,hi⟩:=Ls hl t;have hl':=hl;obtain ⟨⟨hl1,hl2⟩,hpt⟩:=hl';refine Zc Tryz.func251 rfl Pd ?_;simp (disch:=omega) only [Tryz.f251,go_sem,seval];refine ZZ (aP l c t i hl ht hi) (Zj ?_);obtain ⟨i1,i2,i3⟩:=id hi;refine cD ?_ ?_<;>intro h<;>simp (disch:=omega) only [Sh.out h,go_sem,seval,↓reduceIte]
 ·grind [H5]
 ·refine cD ?_ ?_<;>intro h0<;>simp (disch:=omega) only [Sh.out h0,go_sem,seval]
  ·have:i=0:=Za
   subst this;obtain ⟨p1,p2⟩:=hpt 0 Za;rw [H9 hl hi (fun g=>h ⟨Za,g⟩)];refine WK ?_;simp (disch:=omega) only [go_sem,seval,↓reduceIte]
  ·refine cD ?_ ?_<;>intro h1<;>simp (disch:=omega) only [Sh.out h1,go_sem,seval]
   ·have:i=l.length:=Za
    subst this;obtain ⟨p1,p2⟩:=hpt (l.length-1) Za;rw [H8 hi Za]
    have e1:((l.length:Int)-1).toNat=l.length-1:=Za
    refine WK ?_;simp (disch:=omega) only [go_sem,seval,↓reduceIte]
   ·have g1:i<l.length:=Za
    rw [Fu hi Za g1 (fun g=>h ⟨g1,g⟩)];have g2:=VW hl g1 (i-1) Za;obtain ⟨p1,p2⟩:=hpt i g1;obtain ⟨p3,p4⟩:=hpt (i-1) Za
    have e1:((i:Int)-1).toNat=i-1:=Za
    have q1:=i2 (i-1) Za;have q2:=i3 i (Nat.le_refl _) g1;have q3: ¬(nth l i).t=t:=fun g=>h ⟨g1,g⟩;have q4:=p2 Za;refine U9 [9,10,11] 12 mixed Zg Zg Zg Zb ?_;simp (disch:=omega) only [e1,go_sem,seval];refine Ep 9 10 _ _ _ _ Zg (by refine Zj ?_;exact ⟨rfl,rfl⟩) (by refine Zj ?_;exact ⟨rfl,rfl⟩) ?_ ?_
    ·refine Y2 10 _ _ Zg (by refine Zj ?_;exact ⟨rfl,rfl⟩) (Y2 11 _ _ Zg (by refine Zj ?_;exact ⟨rfl,rfl⟩) (Kp ?_));refine Zj ?_;refine WK (Zj ?_);exact congrArg (fun z=>V.p (PV.int IntKind.i64 z)) (JU Za Za Za Za Za Za Za)
    ·refine Y2 9 _ _ Zg (by refine Zj ?_;exact ⟨rfl,rfl⟩) (Y2 11 _ _ Zg (by refine Zj ?_;exact ⟨rfl,rfl⟩) (Kp ?_));refine Zj ?_;refine WK (Zj ?_);exact congrArg (fun z=>V.p (PV.int IntKind.i64 z)) (JU Za Za Za Za Za Za Za)
theorem EI (l:List Pt) (c:Bool) (t:Int) (hl:YD l) (ht:0<=t/\t<=1073741824):PC 248 [.p (.list c (l.map Ec)),.p (.int .i64 t)] (.int .i64 (WI l t)):=by
 refine Zc Tryz.func248 rfl Pa ?_;simp (disch:=omega) only [Tryz.f248,go_sem,seval];refine (Bp t 0 1073741824).use (Zj ?_);simp (disch:=omega) only [ht,go_sem,seval];refine (Lx l c hl).use (Zj ?_);refine (Cf l c t hl ht).use ?_;simp (disch:=omega) only [go_sem,seval]
theorem AU (n:Net) (p:Int) (hn:n.places.length<=1048576):PC 244 [.p (IB n),.p (.int .i64 p)] (.bool (QK n p)):=by
 refine Zc Tryz.func244 rfl O6 ?_;simp (disch:=omega) only [Tryz.f244,go_sem,seval];refine gT ?_ ?_<;>intro h<;>simp (disch:=omega) only [Sh.out h,go_sem,seval,↓reduceIte]
 ·simp [QK,h]
 ·simp [QK,h]
theorem L5 (a:Arc):PC 247 [.p (VD a)] (.agg [.int .i64 a.src,.int .i64 a.dst,.int .i64 a.prof]):=by
 refine Zc Tryz.func247 rfl O9 ?_;simp (disch:=omega) only [Tryz.f247,go_sem,seval,↓reduceIte]
theorem Li (a:Arc) (t:Int) (ha:Nb a) (ht:0<=t/\t<=1073741824):PC 246 [.p (VD a),.p (.int .i64 t)] (.int .i64 (DV a t)):=by
 obtain ⟨h1,h2,h3⟩:=ha;have hr:=K0 h1 ht;have hs:=Vb (t:=t) (fun p hp=>(h3 p hp).2.2);refine Zc Tryz.func246 rfl O8 ?_;simp (disch:=omega) only [Tryz.f246,go_sem,seval];refine (EI a.travel a.travel_c t h1 ht).use (Zj ?_);refine Zn [1,13,14] (fun k:Nat=> [(5,.p (.int .i64 (WI a.travel t+Vj a.slow t k))),(15,.p (.int .i64 k))]) (fun _=> [DU a]) (fun k=>k<=a.slow.length) (fun k=>a.slow.length-k) 0 Zb (Weak.mk ?_) ?_
 ·simp (disch:=omega) only [DU,Vj,List.foldl_nil,go_sem,seval];simp
 ·intro k hk;have hsk:=hs k hk;simp (disch:=omega) only [DU,go_sem,seval];refine cD ?_ ?_<;>intro h<;>simp (disch:=omega) only [Sh.out h,go_sem,seval,↓reduceIte]
  ·have hk2:k<a.slow.length:=Za
   have hp:=h3 _ (Zq hk2);have hsn:=QS (t:=t) hk2;refine YF ?_ ?_<;>intro h4
   ·rw [if_pos h4] at hsn;exact ⟨k+1,Za,Za,Weak.mk (by simp (disch:=omega) only [hsn,Int.add_assoc,go_sem,seval])⟩
   ·rw [if_neg h4] at hsn;exact ⟨k+1,Za,Za,Weak.mk (by simp (disch:=omega) only [hsn,go_sem,seval])⟩
  grind [DV]
theorem Ll (n:Net) (pr f t:Int) (hn:n.arcs.length<=1048576):PT 245 [.p (IB n),.p (.int .i64 pr),.p (.int .i64 f),.p (.int .i64 t)] [.p (VD (Yc n pr f t).1),.p (.bool (Yc n pr f t).2)]:=by
 refine Ze [] Tryz.func245 rfl O7 ?_;simp (disch:=omega) only [Tryz.f245,go_sem,seval];refine Zn [8,10,18,19] (fun k:Nat=> [(20,.p (.int .i64 k))]) (fun _=>Pp n++ [DU Vd,.cells [.p (.int .i64 f),.p (.int .i64 t),.p (.int .i64 pr)]]) (fun k=>k<=n.arcs.length/\ ∀j,j<k->Wp pr f t (nth n.arcs j)=false) (fun k=>n.arcs.length-k) 0 Zb (Weak.mk ?_) ?_
 ·simp (disch:=omega) only [Pp,DU,Vd,List.map_nil,List.cons_append,List.nil_append,go_sem,seval]
 ·rintro k ⟨hk,hno⟩;simp (disch:=omega) only [Pp,DU,Vd,List.map_nil,List.cons_append,List.nil_append,go_sem,seval];refine cD ?_ ?_<;>intro h<;>simp (disch:=omega) only [Sh.out h,go_sem,seval,↓reduceIte]
  ·have hk2:k<n.arcs.length:=Za
   have nx:Wp pr f t (nth n.arcs k)=false-> ∀j,j<k+1->Wp pr f t (nth n.arcs j)=false:=fun h=>ZF.2 ⟨hno,h⟩;refine WK (Zj ?_);refine ZK (L5 (nth n.arcs k)) (Zj ?_);refine YF ?_ ?_<;>intro h1
   ·have e:=FU hk2 hno (by simp [Wp,h1]);obtain ⟨rfl,rfl,rfl⟩:=h1;rw [e];exact we
   ·have e2:Wp pr f t (nth n.arcs k)=false:=by
     simp_all [Wp]
    exact ⟨k+1,⟨Za,nx e2⟩,Za,wk⟩
  ·have hkn:k=n.arcs.length:=Za
   subst hkn;rw [FV hno];exact we (by simp (disch:=omega) only [Vd,List.map_nil,go_sem,seval])
theorem dX (n:Net) (pr f t τ:Int) (hn:netR n) (hτ:0<=τ/\τ<=1073741824):PT 236 [.p (IB n),.p (.int .i64 pr),.p (.int .i64 f),.p (.int .i64 t),.p (.int .i64 τ)] [.p (.int .i64 (Q8 n pr f t τ).1),.p (.int .i64 (Q8 n pr f t τ).2.1),.p (.int .i64 (Q8 n pr f t τ).2.2)]:=by
 refine Ze [] Tryz.func236 rfl O2 ?_;simp (disch:=omega) only [Tryz.f236,go_sem,seval];refine (AU n f hn.1).use (Zj ?_);refine gF ?_ ?_<;>intro h1<;>simp (disch:=omega) only [Sh.out h1,go_sem,seval,↓reduceIte]
 ·have e:Q8 n pr f t τ=(0,0,11):=by grind [Q8]
  rw [e];exact we
 ·simp only [Bool.not_eq_false'] at h1;refine (AU n t hn.1).use (Zj ?_);refine cD ?_ ?_<;>intro h2<;>simp (disch:=omega) only [Sh.out h2,go_sem,seval]
  ·have e:Q8 n pr f t τ=(0,0,11):=by grind [Q8]
   rw [e];exact we
  ·simp only [Bool.not_eq_false'] at h2;refine cD ?_ ?_<;>intro h3<;>simp (disch:=omega) only [Sh.out h3,go_sem,seval,↓reduceIte]
   ·have e:Q8 n pr f t τ=(τ,0,0):=by grind [Q8]
    rw [e];exact we
   ·have cf:=Ll n pr f t hn.2.1;have hm:= @Uf n pr f t
    have e0:Q8 n pr f t τ=if (Yc n pr f t).2=true then (DV (Yc n pr f t).1 τ,(Yc n pr f t).1.miles,0) else (0,0,12):=by grind [Q8]
    rw [e0];generalize Yc n pr f t=A at cf hm ⊢;obtain ⟨a,b⟩:=A;simp only at cf hm ⊢;refine ZZ cf (Zj ?_);refine cD ?_ ?_<;>intro h4<;>simp (disch:=omega) only [Sh.out h4,go_sem,seval]
    ·have hb:b=false:=by grind
     subst hb;exact we (by simp (disch:=omega) only [go_sem,seval,↓reduceIte])
    ·have hb:b=true:=by grind
     subst hb;refine WK (Zj ?_);refine ZK (Li a τ (hn.2.2 a (hm rfl)) hτ) (Zj ?_);exact we
def BM (s:Stp) (a:Int):Int×Int:=if max a s.opn>s.cls then (0,14) else (max a s.opn,0)
theorem Iq (s:Stp) (a:Int):PT 238 [.p (BS s),.p (.int .i64 a)] [.p (.int .i64 (BM s a).1),.p (.int .i64 (BM s a).2)]:=by
 refine Ze [] Tryz.func238 rfl O4 ?_;simp (disch:=omega) only [Tryz.f238,go_sem,seval];refine cD ?_ ?_<;>intro h<;>simp (disch:=omega) only [Sh.out h,go_sem,seval]
 ·have e:BM s a=(0,14):=by simp_all [BM]
  rw [e];exact we
 ·have e:BM s a=(max a s.opn,0):=by simp_all [BM]
  rw [e];exact we
theorem G6 (l:List Ord) (c:Bool) (p:Int) (hl:l.length<=1048576):PC 117 [.p (.list c (l.map VE)),.p (.int .i64 p)] (.bool (decide (0<=p)&&decide (p<(l.length:Int)))):=by
 refine Zc Tryz.func117 rfl Gn ?_;simp (disch:=omega) only [Tryz.f117,go_sem,seval];refine gT ?_ ?_<;>intro h<;>simp (disch:=omega) only [Sh.out h,go_sem,seval,↓reduceIte]
 all_goals simp [h]
theorem Kx (x:Inst) (v:Vis) (ho:x.orders.length<=1048576) (hv:inB x v=true) (hp:0<=(stopV x v).place):PT 73 [.p (.list x.orders_c (x.orders.map VE)),.p (Xb v)] [.p (BS (stopV x v)),.p (.int .i64 0)]:=by
 refine Ze [] Tryz.func73 rfl cP ?_;simp (disch:=omega) only [Tryz.f73,go_sem,seval];have hv':=hv;rw [inB] at hv';have ct:=G6 x.orders x.orders_c v.order ho;rw [hv'] at ct;refine ct.use ?_;simp only [Bool.and_eq_true,decide_eq_true_eq] at hv';obtain ⟨h1,h2⟩:=hv'
 have hi:v.order.toNat<x.orders.length:=Za
 refine Zj ?_;refine cD ?_ ?_<;>intro hd<;>simp (disch:=omega) only [Sh.out hd,go_sem,seval,↓reduceIte]
 ·have e:stopV x v=(nth x.orders v.order.toNat).drp:=by simp [stopV,hd]
  rw [e] at hp ⊢
  have e3: ¬(nth x.orders v.order.toNat).drp.place<0:=Za
  simp (disch:=omega) only [e3,go_sem,seval];exact we
 ·have e:stopV x v=(nth x.orders v.order.toNat).pick:=by simp [stopV,hd]
  rw [e] at hp ⊢
  have e3: ¬(nth x.orders v.order.toNat).pick.place<0:=Za
  simp (disch:=omega) only [e3,go_sem,seval];exact we
theorem Lk (l:List Typ) (c:Bool) (ht:l.length<=1048576):PC 160 [.p (.list c (l.map Q7))] (.int .i64 (dimsOf l)):=by
 refine Zc Tryz.func160 rfl Oh ?_;simp (disch:=omega) only [Tryz.f160,go_sem,seval];refine cD ?_ ?_<;>intro h1<;>simp (disch:=omega) only [Sh.out h1,go_sem,seval,↓reduceIte]
 ·grind [dimsOf]
 simp_all [dimsOf]
theorem Lm (a b:List Int) (c d:Bool) (ha:a.length<=1048576) (hb:b.length<=1048576):PC 190 [.p (.list c (a.map eI)),.p (.list d (b.map eI))] (.bool (Uy a b)):=by
 refine Zc Tryz.func190 rfl OD ?_;simp (disch:=omega) only [Tryz.f190,go_sem,seval];refine cD ?_ ?_<;>intro h1<;>simp (disch:=omega) only [Sh.out h1,go_sem,seval]
 ·grind [Uy]
 ·have h1':a.length=b.length:=Za
  refine Zn [1,12,13] (fun k:Nat=> [(14,.p (.int .i64 k))]) (fun _=> []) (fun k=>k<=a.length/\ ∀j,j<k->nth a j<=nth b j) (fun k=>a.length-k) 0 Zb (Weak.mk ?_) ?_
  ·simp (disch:=omega) only [go_sem,seval]
  ·rintro k ⟨hk,hno⟩;refine Zj ?_;refine cD ?_ ?_<;>intro h2<;>simp (disch:=omega) only [Sh.out h2,go_sem,seval,↓reduceIte]
   ·have hk2:k<a.length:=Za
    refine YF ?_ ?_<;>intro h3
    ·grind [Uy]
    ·exact ⟨k+1,⟨Za,ZF.2 ⟨hno,Za⟩⟩,Za,wk⟩
   ·have hkl:k=a.length:=Za
    simp_all [Uy]
theorem Lh (t:Typ) (s:Int) (h1:t.skills<9223372036854775808) (h2:s<9223372036854775808):PC 187 [.p (Q7 t),.p (.int .i64 s)] (.bool (YU t s)):=by
 refine Zc Tryz.func187 rfl OA ?_;simp (disch:=omega) only [Tryz.f187,go_sem,seval];refine gT ?_ ?_<;>intro c1<;>simp (disch:=omega) only [Sh.out c1,go_sem,seval,↓reduceIte]
 ·refine gT ?_ ?_<;>intro c2<;>simp (disch:=omega) only [Sh.out c2,go_sem,seval,↓reduceIte]
  ·obtain ⟨M,hM⟩: ∃M:Nat,t.skills=(M:Int):=⟨t.skills.toNat,Za⟩;obtain ⟨S,rfl⟩: ∃S:Nat,s=(S:Int):=⟨s.toNat,Za⟩;have hb:=KX (S:=S) (M:=M) Za
   have e:YU t (S:Int)=(List.range 63).all fun i=> !S.testBit i||M.testBit i:=by
    simp_all [YU]
   have hd:decide (IntKind.i64.wrap ((BitVec.ofInt 64 (S:Int)&&& ~~~BitVec.ofInt 64 (M:Int)).toNat:Int)=0)=((List.range 63).all fun i=> !S.testBit i||M.testBit i):=by
    grind
   rw [e,hM];exact congrArg (fun b=>V.p (PV.bool b)) hd
  grind [YU]
 grind [YU]
theorem PD (a b:Int) (h: -1073741824<=a/\a<=1073741824/\ -1073741824<=b/\b<=1073741824):PC 198 [.p (.int .i64 a),.p (.int .i64 b)] (.int .i64 (a+b)):=by
 refine Zc Tryz.func198 rfl OK ?_;simp (disch:=omega) only [Tryz.f198,go_sem,seval]
theorem I2 (a b:Int) (h: -1073741824<=a/\a<=1073741824/\ -1073741824<=b/\b<=1073741824):PC 199 [.p (.int .i64 a),.p (.int .i64 b)] (.int .i64 (a-b)):=by
 refine Zc Tryz.func199 rfl OL ?_;simp (disch:=omega) only [Tryz.f199,go_sem,seval]
def E7 (f:Nat->Int) (n k:Nat):List Int:=(List.range n).map fun j=>if j<k then f j else 0
theorem I4 {f:Nat->Int} {n k:Nat} :(E7 f n k).length=n:=by simp [E7]
theorem GH {f:Nat->Int} {n:Nat} :E7 f n 0=List.replicate n 0:=by
 apply List.ext_getElem (by simp [E7]);grind [E7]
theorem GG {f:Nat->Int} {n:Nat} :E7 f n n=(List.range n).map f:=by
 simp_all [E7]
theorem I5 {f:Nat->Int} {n k:Nat} (h:k<n):(E7 f n k).set k (f k)=E7 f n (k+1):=by
 apply List.ext_getElem (by simp [E7]);grind [E7]
theorem Jn (a b:List Int) (c d:Bool) (g:FuncId) (f:Int->Int->Int) (hl:a.length=b.length) (ha:a.length<=1048576)
  (hf: ∀j,j<a.length->ACalls Tryz.prog g [.p (.int .i64 (nth a j)),.p (.int .i64 (nth b j))] [] fun x H'=>x= .p (.int .i64 (f (nth a j) (nth b j)))/\H'= []) :
  PT 197 [.p (.list c (a.map eI)),.p (.list d (b.map eI)),.fn (.func g) [] []] [.p (.list false (((List.range a.length).map fun j=>f (nth a j) (nth b j)).map eI)),.p (.int .i64 0)]:=by
 refine Ze [9] Tryz.func197 rfl OJ ?_;simp (disch:=omega) only [Tryz.f197,go_sem,seval];refine cD ?_ ?_<;>intro h0<;>simp (disch:=omega) only [Sh.out h0,go_sem,seval]
 ·omega
 ·have hz:=GH (f:=fun j=>f (nth a j) (nth b j)) (n:=a.length);have hml:=fun k=>I4 (f:=fun j=>f (nth a j) (nth b j)) (n:=a.length) (k:=k);refine ZR [9] [0,1,2,8,19] (fun k:Nat=> [(20,.p (.int .i64 k))]) (fun k=> [.elems 1 ((E7 (fun j=>f (nth a j) (nth b j)) a.length k).map eI)]) (fun k=>k<=a.length) (fun k=>a.length-k) 0 Zb (Weak.mk ?_) ?_
  ·simp (disch:=omega) only [hz,go_sem,seval];rw [List.map_replicate];rfl
  ·intro k hk;refine Zj ?_;refine cD ?_ ?_<;>intro h1<;>simp (disch:=omega) only [Sh.out h1,go_sem,seval,↓reduceIte]
   ·have hk2:k<a.length:=Za
    have hs:=I5 (f:=fun j=>f (nth a j) (nth b j)) (n:=a.length) hk2;have hk3:=hml k;refine XC 12 mixed Zg Zg ?_;refine Zj ?_;refine ZK (hf k hk2) ?_;refine Zj ?_;simp (disch:=first | omega | (simp only [List.length_cons,List.length_nil,List.length_append,List.length_map,List.length_take,List.length_drop]<;>omega)) only [go_sem,seval,↓reduceIte];refine ⟨k+1,Za,Za,Weak.mk ?_⟩;simp (disch:=omega) only [<- hs,go_sem,seval];rw [List.map_set];rfl
   ·have hkl:k=a.length:=Za
    subst hkl;rw [<- GG];have hk3:=hml a.length;refine Zp (Weak.fz (o:=0) (by rfl)) ?_;refine Zd [] _ _ _ _ ?_;simp (disch:=omega) only [List.map_cons,List.map_nil,List.set_cons_zero,go_sem,seval];rw [if_pos hk3];exact we
theorem G0 (a b:List Int) (c d:Bool) (hl:a.length=b.length) (ha:a.length<=1048576) (h: ∀j,j<a.length-> -1073741824<=nth a j/\nth a j<=1073741824/\ -1073741824<=nth b j/\nth b j<=1073741824):PT 161 [.p (.list c (a.map eI)),.p (.list d (b.map eI))] [.p (.list false ((UZ a b).map eI)),.p (.int .i64 0)]:=by
 refine Ze [] Tryz.func161 rfl Oi ?_;simp (disch:=omega) only [Tryz.f161,go_sem,seval];refine ZZ (Jn a b c d 198 (fun m n=>m+n) hl ha fun j hj=>PD _ _ (h j hj)) ?_;simp (disch:=omega) only [UZ,go_sem,seval];exact we
theorem Py (a b:List Int) (c d:Bool) (hl:a.length=b.length) (ha:a.length<=1048576) (h: ∀j,j<a.length-> -1073741824<=nth a j/\nth a j<=1073741824/\ -1073741824<=nth b j/\nth b j<=1073741824):PT 162 [.p (.list c (a.map eI)),.p (.list d (b.map eI))] [.p (.list false ((LR a b).map eI)),.p (.int .i64 0)]:=by
 refine Ze [] Tryz.func162 rfl Oj ?_;simp (disch:=omega) only [Tryz.f162,go_sem,seval];refine ZZ (Jn a b c d 199 (fun m n=>m-n) hl ha fun j hj=>I2 _ _ (h j hj)) ?_;simp (disch:=omega) only [LR,go_sem,seval];exact we
theorem G3 (x:Inst) (r:Rte) (ht:0<=r.typ/\r.typ<(x.types.length:Int)) (hv: ∀v∈r.visits,inB x v=true) (hl:r.visits.length<=1048576) (hxl:x.types.length<=1048576) (hol:x.orders.length<=1048576)
  (hs:(ZM x r).skills<9223372036854775808) (ho: ∀o∈x.orders,o.skills<9223372036854775808) :
  PC 154 [.p (XQ x),.p (Vo r)] (.int .i64 (if (r.visits.any fun v=> !YU (ZM x r) (nth x.orders v.order.toNat).skills)=true then 18 else 0)):=by
 refine Zc Tryz.func154 rfl Oc ?_;simp (disch:=omega) only [Tryz.f154,go_sem,seval];refine Zn [2,3,8,9] (fun k:Nat=> [(10,.p (.int .i64 k))]) (fun _=> [Zk x,.cells [.p (.int .i64 r.typ),.p (.int .i64 r.start),.p (.list r.rests_c (r.rests.map eB)),.p (.list r.visits_c (r.visits.map Xb))]]) (fun k=>k<=r.visits.length/\ ∀j,j<k->YU (ZM x r) (nth x.orders (nth r.visits j).order.toNat).skills=true) (fun k=>r.visits.length-k) 0 Zb (Weak.mk ?_) ?_
 ·simp (disch:=omega) only [Zk,go_sem,seval]
 ·rintro k ⟨hk,hno⟩;simp (disch:=omega) only [Zk,go_sem,seval];refine cD ?_ ?_<;>intro h1<;>simp (disch:=omega) only [Sh.out h1,go_sem,seval,↓reduceIte]
  ·have hk2:k<r.visits.length:=Za
   have hin:=hv _ (Zq hk2);simp only [inB,Bool.and_eq_true,decide_eq_true_eq] at hin;obtain ⟨i1,i2⟩:=hin
   have hi:(nth r.visits k).order.toNat<x.orders.length:=Za
   have ho':=ho _ (Zq hi);refine WK (Zj ?_);refine ZK (Lh (ZM x r) (nth x.orders (nth r.visits k).order.toNat).skills Za Za) (Zj ?_);refine YF ?_ ?_<;>intro h2
   ·have:(r.visits.any fun v=> !YU (ZM x r) (nth x.orders v.order.toNat).skills)=true:=by
     grind [Zq]
    grind
   ·exact ⟨k+1,⟨Za,ZF.2 ⟨hno,by grind⟩⟩,Za,wk⟩
  ·have: ¬(r.visits.any fun v=> !YU (ZM x r) (nth x.orders v.order.toNat).skills)=true:=by
    rw [List.any_eq_true];rintro ⟨v,hv,e⟩;obtain ⟨j,hj,rfl⟩:=List.mem_iff_getElem.1 hv
    grind [Zh]
   grind
def DD (x:Inst) (d:Nat) (ms:List Int) (k:Nat):List Int:=(ms.take k).foldl (fun s i=>if (nth x.orders i.toNat).pick.place<0 then UZ s (nth x.orders i.toNat).load else s) (List.replicate d 0)
theorem Bi {x:Inst} {d:Nat} {ms:List Int} {k:Nat} (h:k<ms.length):DD x d ms (k+1)=if (nth x.orders (nth ms k).toNat).pick.place<0 then UZ (DD x d ms k) (nth x.orders (nth ms k).toNat).load else DD x d ms k:=by
 grind [DD,List.take_succ_eq_append_getElem,Zh]
theorem DE {x:Inst} {d:Nat} {ms:List Int} (hms: ∀i∈ms,∀j,j<d->0<=nth (nth x.orders i.toNat).load j/\nth (nth x.orders i.toNat).load j<=1000): ∀k,k<=ms.length->(DD x d ms k).length=d/\ ∀j,j<d->0<=nth (DD x d ms k) j/\nth (DD x d ms k) j<=1000*k
 | 0,_=>by
  grind [DD,Zh]
 | k+1,h=>by
  obtain ⟨h1,h2⟩:=DE hms k Za;rw [Bi Za]
  split
  ·refine ⟨by simp [UZ,h1],fun j hj=> ?_⟩;have a1:=h2 j hj;have a2:=hms _ (Zq (show k<ms.length by omega)) j hj;rw [UZ,WW Za];omega
  ·exact ⟨h1,fun j hj=>by have:=h2 j hj;omega⟩
theorem LO (x:Inst) (S:Int) (d:Nat) (hd:d<=3) (hol:x.orders.length<=1048576) (hms: ∀i∈Xf S 63,0<=i/\i<(x.orders.length:Int)) (hml:(Xf S 63).length<=63)
  (hld: ∀o∈x.orders,o.load.length=d/\ ∀n∈o.load,0<=n/\n<=1000) :
  PC 159 [.p (XQ x),.p (.int .i64 S),.p (.int .i64 (d:Int))] (.list false ((DD x d (Xf S 63) (Xf S 63).length).map eI)):=by
 have hmo: ∀i∈Xf S 63,i.toNat<x.orders.length:=fun i hi=>by grind
 have hrg:=DE (x:=x) (d:=d) (ms:=Xf S 63) fun i hi j hj=>by
  grind [Zq]
 refine Zc Tryz.func159 rfl Og ?_;simp (disch:=omega) only [Tryz.f159,go_sem,seval];refine (EA S).useF (Zj ?_);refine Zp ((Weak.fz (o:=1) (by rfl)).trans (Weak.fz (o:=2) (by rfl))) ?_;simp (disch:=omega) only [List.map_cons,List.map_nil,List.set_cons_succ,List.set_cons_zero,List.length_replicate,eq_self,go_sem,seval]
 have hz:List.replicate d (PV.int .i64 0)=(DD x d (Xf S 63) 0).map eI:=by
  show _=(List.replicate d 0).map eI
  rw [List.map_replicate];rfl
 refine Zn [3,13,14] (fun k:Nat=> [(7,.p (.list false ((DD x d (Xf S 63) k).map eI))),(15,.p (.int .i64 k))]) (fun _=> [Zk x,.dead,.dead]) (fun k=>k<=(Xf S 63).length) (fun k=>(Xf S 63).length-k) 0 Zb (Weak.mk ?_) ?_
 ·simp (disch:=omega) only [Zk,hz,go_sem,seval]
 ·intro k hk;have hk1:=hrg k hk;have hsn:=fun h=>Bi (x:=x) (d:=d) (ms:=Xf S 63) (k:=k) h;simp (disch:=omega) only [Zk,go_sem,seval];refine cD ?_ ?_<;>intro h1<;>simp (disch:=omega) only [Sh.out h1,go_sem,seval,↓reduceIte]
  ·have hk2:k<(Xf S 63).length:=Za
   have hm:=hms _ (Zq hk2);have hi:=hmo _ (Zq hk2);have hlo:=hld _ (Zq hi);have hsn:=hsn hk2;refine Zj ?_;refine YF ?_ ?_<;>intro h2
   ·rw [if_pos h2] at hsn;refine ZZ (G0 (DD x d (Xf S 63) k) (nth x.orders (nth (Xf S 63) k).toNat).load false (nth x.orders (nth (Xf S 63) k).toNat).load_c Za Za fun j hj=> ?_) ?_
    ·have b1:=hk1.2 j Za;have b2:=hlo.2 _ (Zq (show j<(nth x.orders (nth (Xf S 63) k).toNat).load.length by omega));omega
    ·refine Zj ?_;exact ⟨k+1,Za,Za,Weak.mk (by simp (disch:=omega) only [hsn,go_sem,seval])⟩
   ·rw [if_neg h2] at hsn;exact ⟨k+1,Za,Za,Weak.mk (by simp (disch:=omega) only [hsn,go_sem,seval])⟩
  grind
theorem BZ {p:Nat->Bool} {n:Nat} (h: ∀i,n<=i->p i=false): ∀k,n<=k->(List.range k).filter p=(List.range n).filter p:=by
 intro k hk
 induction k with
 | zero=>grind
 | succ k ih =>
  grind [List.range_succ]
theorem dJ {x:Inst} {l:List Vis} (hi:Inr x l) (hn:x.orders.length<=10):Xf ((Wy l:Nat):Int) 63=((List.range x.orders.length).filter fun (i:Nat)=>Yh l (i:Int)).map fun (i:Nat)=>(i:Int):=by
 have key: ∀i:Nat,i<=62->Je ((Wy l:Nat):Int) (i:Int)=Yh l (i:Int):=fun i h=>by
  rw [Ht _ _ h,Bool.eq_iff_iff,GZ,Qn]
  constructor
  ·rintro ⟨v,hv,e⟩;exact ⟨v,hv,by have:=hi v hv;omega⟩
  grind
 unfold Xf;rw [List.filter_congr (q:=fun (i:Nat)=>Yh l (i:Int)) (fun i hm=>key i (by grind)),BZ (n:=x.orders.length) (fun i h=> ?_) 63 Za]
 cases hh:Yh l (i:Int) with
 | false=>rfl
 | true =>
  obtain ⟨v,hv,e⟩:=Qn.1 hh;have:=hi v hv;omega
theorem F5 {x:Inst} {d:Nat} : ∀(L:List Nat) (g:Nat->Int),(L.map fun (i:Nat)=>(i:Int)).foldl (fun s (i:Int)=>if (nth x.orders i.toNat).pick.place<0 then UZ s (nth x.orders i.toNat).load else s) ((List.range d).map g)=(List.range d).map fun j=>g j+(L.map fun i=>if (nth x.orders i).pick.place<0 then nth (nth x.orders i).load j else 0).sum
 | [],g=>Zb
 | i::L,g=>by
  rw [List.map_cons,List.foldl_cons,Int.toNat_natCast]
  by_cases h:(nth x.orders i).pick.place<0
  ·have e:UZ ((List.range d).map g) (nth x.orders i).load=(List.range d).map fun j=>g j+nth (nth x.orders i).load j:=by
    grind [UZ,List.map_congr_left,WW]
   rw [if_pos h,e,F5 L]
   grind
  ·rw [if_neg h,F5 L]
   grind
theorem EV {x:Inst} {l:List Vis} (hi:Inr x l) (hn:x.orders.length<=10):DD x (dimsOf x.types).toNat (Xf ((Wy l:Nat):Int) 63) (Xf ((Wy l:Nat):Int) 63).length=X5 x l 0:=by
 rw [DD,List.take_length,dJ hi hn];have:=F5 (x:=x) (d:=(dimsOf x.types).toNat) ((List.range x.orders.length).filter fun (i:Nat)=>Yh l (i:Int)) fun _=>0
 have e:(List.range (dimsOf x.types).toNat).map (fun _=>(0:Int))=List.replicate (dimsOf x.types).toNat 0:=by
  simp_all [List.map_const']
 rw [e] at this;rw [this,X5];refine List.map_congr_left fun j _=> ?_;rw [Int.zero_add,Vu,QU]
 congr 1
 refine List.map_congr_left fun i _=> ?_
 grind [GU]
theorem Hz {x:Inst} {l:List Vis} {n j:Nat} {d:Nat} (hj:j<d) (hld: ∀o∈x.orders,o.load.length=d/\ ∀n∈o.load,0<=n/\n<=1000) (hn:x.orders.length<=10):0<=QU x l n j/\QU x l n j<=10000:=by
 have key:=DF (f:=fun i=>if i<x.orders.length then (if (Bv x l n i&&Yh l i)=true then nth (nth x.orders i).load j else 0) else 0) (b:=1000) Za (fun q=>by
  grind [Zq]) x.orders.length
 have e:QU x l n j=((List.range x.orders.length).map fun i=>if i<x.orders.length then (if (Bv x l n i&&Yh l i)=true then nth (nth x.orders i).load j else 0) else 0).sum:=by
  simp_all [QU,List.map_congr_left]
 omega
theorem Fi {x:Inst} {l:List Vis} {n j:Nat} (hj:j<(dimsOf x.types).toNat) (hd:LdOk x):0<=nth (X5 x l n) j/\nth (X5 x l n) j<=10000:=by
 rw [X5,WW hj];exact Hz hj (fun o ho=>by obtain ⟨h1,h2⟩:=hd.load o ho;grind) hd.ord
def Mw {α:Type} (f:α->Bool) (l:List α):Int:=match l.findIdx? f with | some i=>(i:Int) | none=> -1
theorem F7 {α:Type} [Inhabited α] {f:α->Bool} {l:List α} {k:Nat} (hk:k<l.length) (h:f (nth l k)=true) (hno: ∀j,j<k->f (nth l j)=false):Mw f l=(k:Int):=by
 have:l.findIdx? f=some k:=by
  grind [List.findIdx?_eq_some_iff_getElem,Zh]
 simp [Mw,this]
theorem F9 {α:Type} [Inhabited α] {f:α->Bool} {l:List α} (hno: ∀j,j<l.length->f (nth l j)=false):Mw f l= -1:=by
 have:l.findIdx? f=none:=by
  rw [List.findIdx?_eq_none_iff];intro x hx;obtain ⟨j,hj,rfl⟩:=List.mem_iff_getElem.1 hx
  grind [Zh]
 simp [Mw,this]
theorem F8 {α:Type} {f:α->Bool} {l:List α} :decide (0<=Mw f l)=l.any f:=by
 grind [Mw]
theorem Ek (l:List (List Int)) (c:Bool) (g:FuncId) (caps:List V) (H:List AM.Obj) (f:List Int->Bool) (hl:l.length<=1048576) (hW:Br H H.length H H) (hc:Zw H.length caps=true)
  (hg: ∀v∈l,ACalls Tryz.prog g (.p (Mv v)::caps) H fun x H'=>x= .p (.bool (f v))/\H'=H) :
  ACalls Tryz.prog 221 [.p (.list c (l.map Mv)),.fn (.func g) [] caps] H fun x H'=>x= .p (.int .i64 (Mw f l))/\H'=H:=by
 refine Xs Tryz.func221 rfl OU (Zd [] _ _ _ _ ?_);simp (disch:=omega) only [Tryz.f221,go_sem,seval];refine Zn [0,1,7] (fun k:Nat=> [(8,.p (.int .i64 k))]) (fun _=>H) (fun k=>k<=l.length/\ ∀j,j<k->f (nth l j)=false) (fun k=>l.length-k) 0 Zb (Weak.mk ?_) ?_
 ·simp (disch:=omega) only [hW,hc,go_sem,seval];simp
 ·rintro k ⟨hk,hno⟩;refine Zj ?_;refine cD ?_ ?_<;>intro h<;>simp (disch:=omega) only [Sh.out h,go_sem,seval,↓reduceIte]
  ·have hk2:k<l.length:=Za
   have hgk:=hg (nth l k) (Xh hk2);simp (disch:=omega) only [NI,go_sem,seval] at hgk;refine hgk.useH (Zj ?_);refine cD ?_ ?_<;>intro h2<;>simp (disch:=omega) only [Sh.out h2,go_sem,seval,↓reduceIte]
   ·grind [F7]
   ·have h3:f (nth l k)=false:=Za
    refine ⟨k+1,⟨Za,ZF.2 ⟨hno,h3⟩⟩,Za,Weak.mk ?_⟩;simp (disch:=omega) only [hW,hc,go_sem,seval];simp
  grind [F9]
theorem Kl (l:List (List Int)) (c:Bool) (g:FuncId) (caps:List V) (H:List AM.Obj) (f:List Int->Bool) (hl:l.length<=1048576) (hW:Br H H.length H H) (hc:Zw H.length caps=true)
  (hg: ∀v∈l,ACalls Tryz.prog g (.p (Mv v)::caps) H fun x H'=>x= .p (.bool (f v))/\H'=H) :
  ACalls Tryz.prog 188 [.p (.list c (l.map Mv)),.fn (.func g) [] caps] H fun x H'=>x= .p (.bool (l.any f))/\H'=H:=by
 refine Xs Tryz.func188 rfl OB (Zd [] _ _ _ _ ?_);simp (disch:=omega) only [Tryz.f188,go_sem,seval];refine (Ek l c g caps H f hl hW hc hg).useH (Zj ?_);rw [F8]
theorem G5 (x:Inst) (r:Rte) (hx:InstOk x) (hl:r.visits.length<=1048576):PC 153 [.p (XQ x),.p (Vo r)] (.int .i64 (Z1 x r.visits)):=by
 have hf:=El hx;obtain ⟨h1,h2⟩:=List.append_eq_nil_iff.1 hx.rules
 have ha:x.apart.length<=1048576:=by
  have h3:=(List.append_eq_nil_iff.1 h1).1
  grind [mK]
 have hb:x.before.length<=1048576:=by
  have h3:=(List.append_eq_nil_iff.1 h2).1
  grind [mK]
 exact Cz x r (by have:=hf.len;omega) hl ha hb
theorem Lg {x:Inst} {l:List Vis} (hi:Inr x l) (hn:x.orders.length<=10):AR l=(((Wy l:Nat):Int),0):=by
 rw [AR,if_pos];rw [List.all_eq_true];intro v hv;have:=hi v hv;simp [HM];omega
theorem rF {α:Type} (f:Nat->α) (n:Nat):(List.range n).map f++ [f n]=(List.range (n+1)).map f:=by grind [List.range_succ]
theorem QT {P Q:Prop} (h:Q) (e:Q->P:=by intro h;simp (disch:=omega) only [List.map_cons,List.map_nil,List.set_cons_succ,List.set_cons_zero,go_sem,seval];exact h):P:=e h
theorem AT (x:Inst) (r:Rte) (hx:InstOk x) (hl:r.visits.length<=1048576) (h0:Z1 x r.visits=0) :
  PT 116 [.p (XQ x),.p (Vo r)] [.p (.list false ((WR x r.visits).map Mv)),.p (.int .i64 0)]:=by
 have hd:=VJ hx;have hsq:=XB h0;have hol:=hd.ord;have hso:=Ba r hl;rw [Lg hsq.inr hol] at hso
 have hD:dimsOf x.types=((dimsOf x.types).toNat:Int):=by have:=hd.dim;omega
 have cd:=Lk x.types x.types_c hd.typ;rw [hD] at cd;have hst:=EV hsq.inr hol
 have hmem: ∀i∈Xf ((Wy r.visits:Nat):Int) 63,0<=i/\i<(x.orders.length:Int):=fun i hi=>by
  rw [dJ hsq.inr hol] at hi
  grind
 have cs:=LO x ((Wy r.visits:Nat):Int) (dimsOf x.types).toNat (by have:=hd.dim;omega) Za hmem (AD _ _) (fun o ho=>by have:=hd.load o ho;grind);rw [hst] at cs;refine Ze [20] Tryz.func116 rfl NZ ?_;simp (disch:=omega) only [Tryz.f116,go_sem,seval];refine (G5 x r hx hl).use (Zj ?_);simp (disch:=omega) only [h0,go_sem,seval];refine ZZ hso (Zj ?_);refine WK (Zj ?_);refine ZK (cd) (Zj ?_);refine ZK (cs) (Zj ?_);refine ZR [20] [2,37,38] (fun q:Nat×List (List Int)=> [(9,.p (.list false ((X5 x r.visits q.1).map eI))),(10,.sl 2 0 q.2.length q.2.length),(39,.p (.int .i64 q.1))]) (fun q=> [Zk x,Z7 r,.elems 1 (q.2.map Mv)]) (fun q=>q.1<=r.visits.length/\q.2=(List.range (q.1+1)).map (X5 x r.visits)) (fun q=>r.visits.length-q.1) (0,[X5 x r.visits 0]) Zb (Weak.mk ?_) ?_
 ·simp (disch:=omega) only [Zk,Z7,List.map_nil,List.map_cons,List.length_nil,List.length_cons,go_sem,seval]
 ·rintro ⟨k,o⟩ ⟨hk,ho⟩;simp only at hk ho
  have hol2:o.length=k+1:=by rw [ho];simp
  refine JV ?_;refine cD ?_ ?_<;>intro h1<;>simp (disch:=omega) only [Sh.out h1,go_sem,seval,↓reduceIte]
  ·have hk2:k<r.visits.length:=Za
   obtain ⟨v1,v2⟩:=hsq.inr _ (Xh hk2)
   have hi:(nth r.visits k).order.toNat<x.orders.length:=Za
   obtain ⟨l1,l2⟩:=hd.load _ (Zq hi);have hsu:=DQ hsq hk2;have hal:=KU (x:=x) (l:=r.visits) (n:=k);have hdm:=hd.dim
   have hrg: ∀j,j<(X5 x r.visits k).length-> -1073741824<=nth (X5 x r.visits k) j/\nth (X5 x r.visits k) j<=1073741824/\ -1073741824<=nth (nth x.orders (nth r.visits k).order.toNat).load j/\nth (nth x.orders (nth r.visits k).order.toNat).load j<=1073741824:=fun j hj=>by
    have b1:=Fi (x:=x) (l:=r.visits) (n:=k) (j:=j) Za hd
    grind [Zq]
   refine cD ?_ ?_<;>intro h2<;>simp (disch:=omega) only [Sh.out h2,go_sem,seval,↓reduceIte]
   ·rw [if_pos h2] at hsu;refine ZZ (Py (X5 x r.visits k) (nth x.orders (nth r.visits k).order.toNat).load false (nth x.orders (nth r.visits k).order.toNat).load_c Za Za hrg) (Zj ?_);exact ⟨(k+1,o++ [X5 x r.visits (k+1)]),⟨Za,by grind⟩,Za,Weak.mk (by simp (disch:=omega) only [hsu,List.length_append,List.length_cons,List.length_nil,List.map_append,List.map_cons,List.map_nil,go_sem,seval])⟩
   ·rw [if_neg (by rw [h2];simp)] at hsu;refine ZZ (G0 (X5 x r.visits k) (nth x.orders (nth r.visits k).order.toNat).load false (nth x.orders (nth r.visits k).order.toNat).load_c Za Za hrg) (Zj ?_);exact ⟨(k+1,o++ [X5 x r.visits (k+1)]),⟨Za,by grind⟩,Za,Weak.mk (by simp (disch:=omega) only [hsu,List.length_append,List.length_cons,List.length_nil,List.map_append,List.map_cons,List.map_nil,go_sem,seval])⟩
  ·have hkl:k=r.visits.length:=Za
   subst hkl;refine Zp (Weak.fz (o:=2) (by rfl)) (Zd [] _ _ _ _ (QT ?_));rw [WR,<- ho];exact we
theorem IK (x:Inst) (r:Rte) (a:List Int) (htl:x.types.length<=1048576) (hty:0<=r.typ/\r.typ<(x.types.length:Int)) (ha:a.length<=1048576) (hc:(ZM x r).cap.length<=1048576) :
  ACalls Tryz.prog 189 [.p (Mv a),.ptr 0 0,.ptr 1 0] [Zk x,Z7 r] fun y H'=>y= .p (.bool (!Uy a (ZM x r).cap))/\H'= [Zk x,Z7 r]:=by
 have hti:r.typ.toNat<x.types.length:=Za
 refine Ze [] Tryz.func189 rfl OC ?_;simp (disch:=omega) only [Tryz.f189,Zk,Z7,go_sem,seval];refine (Lm a (ZM x r).cap false (ZM x r).cap_c ha hc).use (Zj ?_);exact we
theorem G1 (x:Inst) (r:Rte) (hx:InstOk x) (hl:r.visits.length<=1048576) (hty:0<=r.typ/\r.typ<(x.types.length:Int)) (h0:Z1 x r.visits=0) :
  PC 155 [.p (XQ x),.p (Vo r)] (.int .i64 (if Qu x (ZM x r).cap r.visits=true then 0 else 17)):=by
 have hd:=VJ hx;have htl:=hd.typ
 have hti:r.typ.toNat<x.types.length:=Za
 have hcp:(ZM x r).cap.length<=1048576:=by
  have hcap:=hx.types.2 _ hti;unfold DG at hcap;obtain ⟨⟨⟨⟨⟨⟨⟨⟨_,_⟩,_⟩,_⟩,hcap⟩,_⟩,_⟩,_⟩,_⟩:=hcap;simp only [FF,Bool.and_eq_true,decide_eq_true_eq,rng] at hcap;unfold ZM;omega
 have hll:(WR x r.visits).length=r.visits.length+1:=by simp [WR]
 have hvl:=(XB h0).len hd.ord
 have XV:(WR x r.visits).any (fun a=> !Uy a (ZM x r).cap)= !Qu x (ZM x r).cap r.visits:=by
  grind [Qu,WR]
 have e1: ¬r.typ<0:=Za
 have e2: ¬(x.types.length:Int)<=r.typ:=Za
 refine Zc Tryz.func155 rfl Od ?_;simp (disch:=omega) only [Tryz.f155,e1,e2,go_sem,seval];refine ZZ (AT x r hx hl h0) (Zj ?_);refine (Kl (WR x r.visits) false 189 [.ptr 0 0,.ptr 1 0] [Zk x,Z7 r] (fun a=> !Uy a (ZM x r).cap) Za (by simp (disch:=omega) only [Zk,Z7,go_sem,seval]) (by rfl) (fun a ha=>IK x r a htl hty ?_ hcp)).useH ?_
 ·obtain ⟨j,_,rfl⟩:=List.mem_map.1 ha;rw [KU];have:=hd.dim;omega
 ·refine JV ?_;rw [XV];refine cD ?_ ?_<;>intro h1<;>simp (disch:=omega) only [Sh.out h1,go_sem,seval]
  ·grind
  grind
theorem PQ {p q:Pt} {t:Int} (h1:p.t<=t) (h2:t<q.t) (hp:p.t<=p.a) (hq:q.t<=q.a):t<=KF p q t:=by
 unfold KF
 have hw:0<q.t-p.t:=Za
 have key:(t-p.a)*(q.t-p.t)<=(t-p.t)*(q.a-p.a)+q.t-p.t-1:=by
  have e:(t-p.t)*(q.a-p.a)-(t-p.a)*(q.t-p.t)=(t-p.t)*(q.a-q.t)+(p.a-p.t)*(q.t-t):=by
   grind
  have h3:0<=(t-p.t)*(q.a-q.t):=Int.mul_nonneg Za Za;have h4:0<=(p.a-p.t)*(q.t-t):=Int.mul_nonneg Za Za;omega
 have:=Int.le_ediv_of_mul_le hw key;omega
theorem H7 {l:List Pt} {t:Int} (hl:YD l):t<=WI l t:=by
 obtain ⟨⟨hl1,hl2⟩,hpt⟩:=hl;unfold WI
 split
 ·rename_i i hi;have hm:=List.mem_of_find?_eq_some hi;have hs:=List.find?_some hi;simp at hm;simp only [V1,Bool.and_eq_true,decide_eq_true_eq] at hs;obtain ⟨⟨p1,p2,p3,p4⟩,_⟩:=hpt i Za;obtain ⟨⟨q1,q2,q3,q4⟩,q5⟩:=hpt (i+1) Za
  simp_all [PQ]
 ·obtain ⟨⟨p1,p2,p3,p4⟩,_⟩:=hpt 0 Za;obtain ⟨⟨q1,q2,q3,q4⟩,_⟩:=hpt (l.length-1) Za;omega
theorem Gg {n:Net} {pr f t τ:Int} (hn:netR n) (h:(Q8 n pr f t τ).2.2=0):τ<=(Q8 n pr f t τ).1:=by
 unfold Q8 at h ⊢
 split at h
 ·simp at h
 ·rename_i c1;rw [if_neg c1]
  split at h
  ·grind
  ·rename_i c2;rw [if_neg c2]
   split at h
   ·rename_i c3;rw [if_pos c3];have hA:=Uf c3;have h1:=H7 (t:=τ) (hn.2.2 _ hA).1;have h2:=Vb (t:=τ) (fun p hp=>((hn.2.2 _ hA).2.2 p hp).2.2) _ (Nat.le_refl _)
    grind [DV]
   ·simp at h
theorem D5 {x t sp} {st:Int} {r:List Bool} (hr:r.length<=sp.length+1) (h:(YH x t sp st r).2=0): ∃bs:List Bool,bs.length=sp.length+1/\(Z2 x t sp 0 (ZW t st) bs).2=0/\(YH x t sp st r).1=(Z2 x t sp 0 (ZW t st) bs).1.she:=by
 unfold YH at h ⊢
 cases hf:Yp XL none ((XD r (sp.length+1)).filterMap (Wj (ZT x t sp) 0 (ZW t st))) with
 | none =>
  rw [hf] at h;simp only at h ⊢;exfalso
  have hm:YS r (sp.length+1)∈XD r (sp.length+1):=by
   grind [XD,YS,Wg]
  have h2:Wj (ZT x t sp) 0 (ZW t st) (YS r (sp.length+1))=some (Z2 x t sp 0 (ZW t st) (YS r (sp.length+1))).1:=by rw [YE,if_pos h]
  have h3:(Z2 x t sp 0 (ZW t st) (YS r (sp.length+1))).1∈(XD r (sp.length+1)).filterMap (Wj (ZT x t sp) 0 (ZW t st)):=List.mem_filterMap.2 ⟨_,hm,h2⟩;generalize (XD r (sp.length+1)).filterMap (Wj (ZT x t sp) 0 (ZW t st))=l at hf h3
  cases l with
  | nil=>simp at h3
  | cons a l =>
   rw [Yp] at hf;obtain ⟨z,e,_⟩:=Y1 XL l a
   grind
 | some L =>
  simp only;have hm:=bestF_len.fmL_mem _ _ hf;obtain ⟨bs,hbs,hrun⟩:=List.mem_filterMap.1 hm;rw [YE] at hrun
  split at hrun
  ·rename_i h5;simp at hrun;subst hrun;obtain ⟨q,hq,rfl⟩:=List.mem_map.1 hbs;have hql:=bestF_len.fromB_len _ _ hq
   grind
  ·cases hrun
def Af (x:Inst) (t:Typ) (r:Rte) (c:Bool) (sp:List Stp):PV:= .agg [.list x.net.places_c (x.net.places.map eS),.list x.net.arcs_c (x.net.arcs.map VD),.list x.types_c (x.types.map Q7),.list x.orders_c (x.orders.map VE),.list x.apart_c (x.apart.map eP),.list x.before_c (x.before.map eP),.str t.name,.int .i64 t.count,.int .i64 t.src,.int .i64 t.dst,.list t.cap_c (t.cap.map eI),.int .i64 t.skills,.int .i64 t.prof,.int .i64 t.opn,.int .i64 t.cls,.int .i64 t.drive,.int .i64 t.rest,.int .i64 t.fixed,.int .i64 t.perMile,.int .i64 t.perTick,.int .i64 r.typ,.int .i64 r.start,.list r.rests_c (r.rests.map eB),.list r.visits_c (r.visits.map Xb),.list c (sp.map BS)]
@[go_sem] theorem iV (x:Inst) (t:Typ) (r:Rte) (c:Bool) (sp:List Stp):Af x t r c sp= .agg [.list x.net.places_c (x.net.places.map eS),.list x.net.arcs_c (x.net.arcs.map VD),.list x.types_c (x.types.map Q7),.list x.orders_c (x.orders.map VE),.list x.apart_c (x.apart.map eP),.list x.before_c (x.before.map eP),.str t.name,.int .i64 t.count,.int .i64 t.src,.int .i64 t.dst,.list t.cap_c (t.cap.map eI),.int .i64 t.skills,.int .i64 t.prof,.int .i64 t.opn,.int .i64 t.cls,.int .i64 t.drive,.int .i64 t.rest,.int .i64 t.fixed,.int .i64 t.perMile,.int .i64 t.perTick,.int .i64 r.typ,.int .i64 r.start,.list r.rests_c (r.rests.map eB),.list r.visits_c (r.visits.map Xb),.list c (sp.map BS)]:=Eq.trans rfl rfl
def P8 (x:Inst) (t:Typ) (r:Rte):List V:= [.p (.list x.net.places_c (x.net.places.map eS)),.p (.list x.net.arcs_c (x.net.arcs.map VD)),.p (.list x.types_c (x.types.map Q7)),.p (.list x.orders_c (x.orders.map VE)),.p (.list x.apart_c (x.apart.map eP)),.p (.list x.before_c (x.before.map eP)),.p (.str t.name),.p (.int .i64 t.count),.p (.int .i64 t.src),.p (.int .i64 t.dst),.p (.list t.cap_c (t.cap.map eI)),.p (.int .i64 t.skills),.p (.int .i64 t.prof),.p (.int .i64 t.opn),.p (.int .i64 t.cls),.p (.int .i64 t.drive),.p (.int .i64 t.rest),.p (.int .i64 t.fixed),.p (.int .i64 t.perMile),.p (.int .i64 t.perTick),.p (.int .i64 r.typ),.p (.int .i64 r.start),.p (.list r.rests_c (r.rests.map eB)),.p (.list r.visits_c (r.visits.map Xb))]
def Xd (x:Inst) (t:Typ) (r:Rte) (c:Bool) (sp:List Stp):AM.Obj:= .cells [.p (.list x.net.places_c (x.net.places.map eS)),.p (.list x.net.arcs_c (x.net.arcs.map VD)),.p (.list x.types_c (x.types.map Q7)),.p (.list x.orders_c (x.orders.map VE)),.p (.list x.apart_c (x.apart.map eP)),.p (.list x.before_c (x.before.map eP)),.p (.str t.name),.p (.int .i64 t.count),.p (.int .i64 t.src),.p (.int .i64 t.dst),.p (.list t.cap_c (t.cap.map eI)),.p (.int .i64 t.skills),.p (.int .i64 t.prof),.p (.int .i64 t.opn),.p (.int .i64 t.cls),.p (.int .i64 t.drive),.p (.int .i64 t.rest),.p (.int .i64 t.fixed),.p (.int .i64 t.perMile),.p (.int .i64 t.perTick),.p (.int .i64 r.typ),.p (.int .i64 r.start),.p (.list r.rests_c (r.rests.map eB)),.p (.list r.visits_c (r.visits.map Xb)),.p (.list c (sp.map BS))]
def Rf : AM.Obj:= .cells [.p (.list true []),.p (.list true []),.p (.list true []),.p (.list true []),.p (.list true []),.p (.list true []),.p (.str []),.p (.int .i64 0),.p (.int .i64 0),.p (.int .i64 0),.p (.list true []),.p (.int .i64 0),.p (.int .i64 0),.p (.int .i64 0),.p (.int .i64 0),.p (.int .i64 0),.p (.int .i64 0),.p (.int .i64 0),.p (.int .i64 0),.p (.int .i64 0),.p (.int .i64 0),.p (.int .i64 0),.p (.list true []),.p (.list true []),.p (.list true [])]
def We (L:Lab):PV:= .agg [.int .i64 L.ready,.int .i64 L.since,.bool L.she.rest,.int .i64 L.she.dep,.list L.she.times_c (L.she.times.map eTim),.int .i64 L.she.fin,.int .i64 L.she.miles]
@[go_sem] theorem iL (L:Lab):We L= .agg [.int .i64 L.ready,.int .i64 L.since,.bool L.she.rest,.int .i64 L.she.dep,.list L.she.times_c (L.she.times.map eTim),.int .i64 L.she.fin,.int .i64 L.she.miles]:=Eq.trans rfl rfl
@[go_sem] theorem RD (l:List Lab):U4 7 (l.map We)=true:=Vx (f:=We) (S:=7) (fun _=>rfl) l
def Xv (L:Lab):AM.Obj:= .cells [.p (.int .i64 L.ready),.p (.int .i64 L.since),.p (.bool L.she.rest),.p (.int .i64 L.she.dep),.p (.list L.she.times_c (L.she.times.map eTim)),.p (.int .i64 L.she.fin),.p (.int .i64 L.she.miles)]
theorem FJ (l:List Tim) (c:Bool) (hl:l.length<=1048576):ACalls Tryz.prog 235 [.p (.list c (l.map eTim))] [] fun x H'=>x= .sl 0 0 l.length l.length/\H'= [.elems 4 (l.map eTim)]:=by
 suffices hh:ACalls Tryz.prog 235 [.p (.list c (l.map eTim))] [] fun x H'=> ∃m:List Tim,m=l/\x= .sl 0 0 m.length m.length/\H'= [.elems 4 (m.map eTim)] by
  grind
 refine Ze [1] Tryz.func235 rfl O1 ?_;simp (disch:=omega) only [Tryz.f235,go_sem,seval];refine ZJ (ZJ (VA 1 rfl rfl ?_));refine ⟨_,Ld (e:=28) rfl Tryz.underlying144 rfl (fun _=>rfl),?_⟩;rintro _ ⟨b,rfl,hb⟩;refine Zj ?_;refine Zd [] _ _ _ _ ?_
 cases b with
 | true =>
  have hn:l= []:=by simp_all
  subst hn;refine Zj ?_;exact ⟨_,_,Weak.ofNil 0 4 rfl Zb (wk),[],rfl,rfl,rfl⟩
 | false =>
  refine Zj ?_;refine Zd [] _ _ _ _ (Zj ?_);exact ⟨.sl 0 0 l.length l.length,[.elems 4 (l.map eTim)],wk,l,rfl,rfl,rfl⟩
theorem Jk (x:Inst) (t:Typ) (r:Rte) (c:Bool) (sp:List Stp):PC 192 [.p (Af x t r c sp)] (We (ZW t r.start)):=by
 refine Ze [] Tryz.func192 rfl OE ?_;simp (disch:=omega) only [Tryz.f192,go_sem,seval];exact we (by simp (disch:=omega) only [ZW,zShe,List.map_nil,go_sem,seval])
theorem Ha (x:Inst) (t:Typ) (r:Rte) (c:Bool) (sp:List Stp) (k:Nat) (hk:k<=sp.length) (hl:sp.length<=1048576):PC 237 [.p (Af x t r c sp),.p (.int .i64 (k:Nat))] (.int .i64 (EJ t sp k)):=by
 refine Zc Tryz.func237 rfl O3 ?_;simp (disch:=omega) only [Tryz.f237,go_sem,seval];refine cD ?_ ?_<;>intro h<;>simp (disch:=omega) only [Sh.out h,go_sem,seval,↓reduceIte]
 ·simp_all [EJ]
 simp_all [EJ]
theorem PB (x:Inst) (r:Rte) (hx:InstOk x) (hty:0<=r.typ/\r.typ<(x.types.length:Int)) (h0:Z1 x r.visits=0) (hs:0<=r.start/\r.start<=4096) :
  PT 191 [.p (XQ x),.p (Vo r)] [.p (Af x (ZM x r) r false (Xc x r.visits)),.p (.bool true)]:=by
 have hd:=VJ hx;have hsq:=XB h0;have hol:=hd.ord;have htl:=hd.typ;have hvl:=hsq.len hol
 have e1: ¬r.typ<0:=Za
 have e2: ¬(x.types.length:Int)<=r.typ:=Za
 have e3: ¬r.start<0:=Za
 have e4: ¬ 4096<r.start:=Za
 have e5: ¬ 20<(r.visits.length:Int):=Za
 refine Ze [12] Tryz.func191 rfl Gq ?_;simp (disch:=omega) only [Tryz.f191,e1,e2,e3,e4,e5,go_sem,seval];refine U9 [9] 10 mixed Zg Zg Zg Zb (Zj ?_);refine Y2 9 _ _ Zg (by refine Zj ?_;exact ⟨rfl,rfl⟩) (Kp ?_);refine Zj ?_
 refine ZR [12] [2,4,6,49,50] (fun q:Nat×List Stp=> [(51,.p (.int .i64 q.1))])
  (fun q=> [Zk x,Z7 r,Rf,.cells (P8 x (ZM x r) r++ [.sl 4 0 q.2.length q.2.length]),.elems 4 (q.2.map BS)])
  (fun q=>q.1<=r.visits.length/\q.2=(Xc x r.visits).take q.1) (fun q=>r.visits.length-q.1) (0,[]) Zb ((Weak.nilC (o:=3) (j:=24) 4 rfl rfl Zb).trans (Weak.mk ?_)) ?_
 ·simp (disch:=omega) only [Zk,Z7,Rf,P8,ZM,List.map_nil,List.length_nil,List.set_cons_succ,List.set_cons_zero,List.cons_append,List.nil_append,go_sem,seval]
 ·rintro ⟨k,o⟩ ⟨hk,ho⟩;simp only at hk ho
  have hol2:o.length=k:=by grind [ZI]
  simp (disch:=omega) only [Zk,Z7,Rf,P8,go_sem,seval];refine cD ?_ ?_<;>intro h1<;>simp (disch:=omega) only [Sh.out h1,go_sem,seval,↓reduceIte]
  ·have hk2:k<r.visits.length:=Za
   have hvis:=hsq.vis (Xh hk2);simp only [EX,Bool.and_eq_true,decide_eq_true_eq] at hvis
   have hsn:o++ [stopV x (nth r.visits k)]=(Xc x r.visits).take (k+1):=by
    rw [ho,List.take_succ_eq_append_getElem (by grind [ZI]),<- Zh,CE hk2]
   have hnp: ¬(stopV x (nth r.visits k)).place<0:=Za
   refine ZZ (Kx x (nth r.visits k) Za hvis.1 hvis.2) ?_;simp (disch:=omega) only [hnp,go_sem,seval];exact ⟨(k+1,o++ [stopV x (nth r.visits k)]),⟨Za,hsn⟩,Za,Weak.mk (by simp (disch:=omega) only [List.length_append,List.length_cons,List.length_nil,List.map_append,List.map_cons,List.map_nil,go_sem,seval])⟩
  ·have hkl:k=r.visits.length:=Za
   subst hkl
   have hso:o=Xc x r.visits:=by grind [ZI]
   subst hso;refine Zp (Weak.fz (o:=4) (by rfl)) (Zd [] _ _ _ _ (QT ?_));exact we
def Bd (rd sn:Int) (m:She):AM.Obj:= .cells [.p (.int .i64 rd),.p (.int .i64 sn),.p (.bool m.rest),.p (.int .i64 m.dep),.sl 4 0 m.times.length m.times.length,.p (.int .i64 m.fin),.p (.int .i64 m.miles)]
theorem BW {P:Program} {H:List AM.Obj} {f ars} {a b d:PV} {B:V->Prop} {t} (h:ACalls P f ars [] fun x H'=>x= .tup [.p a,.p b,.p d]/\H'= []) (k:B (.tup [.p a,.p b,.p d])) (ha:Zw 0 ars=true:=by rfl) :
  IG (fun y=>ACalls P f ars H (Zm (Zm (fun x H'=>x=y/\H'=H) ⟨⟩) ⟨⟩)) (Zm B t) :=
 ⟨.tup [.p a,.p b,.p d],(h.behind ha H).mono fun x H' hq=>by
  obtain ⟨y,H1,⟨rfl,rfl⟩,rfl,rfl⟩:=hq
  simp [Bc,Wl,Zm],k⟩
theorem Pq (x:Inst) (t:Typ) (r:Rte) (c:Bool) (sp:List Stp) (hok:TrpOk x t sp) (k:Nat) (hk:k<=sp.length) (hs1:0<sp.length) (L:Lab) (hL:LabR k L) (hlen:L.she.times.length=k) (hclip:0<k->L.she.times_c=false) (b:Bool) :
  PT 222 [.p (Af x t r c sp),.p (We L),.p (.int .i64 (k:Nat)),.p (.bool b)] [.p (We (Xg x t sp k L b).1),.p (.int .i64 (Xg x t sp k L b).2)]:=by
 have hd:=Qe hok hL b;have hsn:=Be hL b;have hg:=De hok hL b;have hmi:=hL.mil;have hrd:=hL.rdy;have hsnL:=hL.snc;have hsl:=hok.len;have hrst:=hok.rst;unfold Xg;have hmm:= @UD k (ZN t L b) b L.she;have hmf:= @Ey k (ZN t L b) b L.she;have hml:= @Um k (ZN t L b) b L.she;refine Ze [2,7,14,31] Tryz.func222 rfl OV ?_;simp (disch:=omega) only [Tryz.f222,go_sem,seval];refine WK (Zj ?_);refine XZ [2,3,4,5,8] (fun _:Unit=> [(10,.p (.int .i64 (ZN t L b))),(11,.p (.int .i64 (WA L b)))]) (fun _=> [Xd x t r c sp,Xv L,Xv XE]) (fun _=>True) ?_ ?_
 ·refine Zj ?_;refine YF ?_ ?_<;>intro h
  ·subst h;exact ⟨(),Weak.mk (by simp (disch:=omega) only [Xd,Xv,XE,zShe,ZN,WA,List.map_nil,go_sem,seval,↓reduceIte])⟩
  ·subst h;exact ⟨(),Weak.mk (by simp (disch:=omega) only [Xd,Xv,XE,zShe,ZN,WA,List.map_nil,go_sem,seval,↓reduceIte])⟩
 ·intro _ _;refine Zd [7,14,31] _ _ _ _ ?_;simp (disch:=omega) only [Xd,Xv,XE,zShe,List.map_nil,go_sem,seval];refine (FJ L.she.times L.she.times_c Za).useF (Zj ?_)
  generalize hM:Z4 k (ZN t L b) b L.she=M at *
  refine XZ [2,4,8,10,11,12] (fun _:Unit=> []) (fun _=> [Xd x t r c sp,Xv L,Xv XE,Bd 0 0 M,.elems 4 (M.times.map eTim)]) (fun _=>True) ?_ ?_
  ·refine Zj ?_;refine YF ?_ ?_<;>intro h
   ·have hk0:k=0:=Za
    subst hk0
    have e:M= { L.she with rest:=b,dep:=ZN t L b } :=by rw [<- hM,Z4,if_pos rfl]
    rw [e];exact ⟨(),Weak.mk (by simp (disch:=omega) only [Xd,Xv,XE,zShe,Bd,List.map_nil,go_sem,seval])⟩
   ·have e1:((k:Int)-1).toNat=k-1:=Za
    have hk1:k-1<L.she.times.length:=Za
    have Mx:(L.she.times.map eTim).set (k-1) (PV.agg [.int .i64 (nth L.she.times (k-1)).arr,.int .i64 (nth L.she.times (k-1)).beg,.int .i64 (nth L.she.times (k-1)).dep,.bool b])=(L.she.times.set (k-1) { nth L.she.times (k-1) with rest:=b }).map eTim:=by
     rw [List.map_set];rfl
    have hn1:nth (L.she.times.set (k-1) { nth L.she.times (k-1) with rest:=b }) (k-1)= { nth L.she.times (k-1) with rest:=b } :=by
     grind [Zh]
    have hl1:(L.she.times.set (k-1) { nth L.she.times (k-1) with rest:=b }).length=L.she.times.length:=Zb
    have hMt:M.times=(L.she.times.set (k-1) { nth L.she.times (k-1) with rest:=b }).set (k-1) { nth (L.she.times.set (k-1) { nth L.she.times (k-1) with rest:=b }) (k-1) with dep:=ZN t L b } :=by
     rw [hn1,List.set_set,<- hM,Z4,if_neg Za];rfl
    have hM2:M.rest=L.she.rest/\M.dep=L.she.dep:=by rw [<- hM,Z4,if_neg Za];simp
    simp (disch:=first | omega | (simp only [List.length_cons,List.length_nil,List.length_append,List.length_map,List.length_take,List.length_drop]<;>omega)) only [e1,go_sem,seval,↓reduceIte];rw [Mx]
    generalize L.she.times.set (k-1) { nth L.she.times (k-1) with rest:=b } =l1 at *
    simp (disch:=first | omega | (simp only [List.length_cons,List.length_nil,List.length_append,List.length_map,List.length_take,List.length_drop]<;>omega)) only [e1,hl1,eq_self,decide_true,go_sem,seval];refine ⟨(),Weak.mk ?_⟩;simp (disch:=omega) only [Xd,Xv,XE,zShe,Bd,List.map_nil,hM2.1,hM2.2,hmm,hmf,hml,go_sem,seval];rw [hMt,List.map_set]
    rfl
  ·intro _ _;refine Zd [14,31] _ _ _ _ ?_;simp (disch:=omega) only [Xd,Xv,XE,zShe,Bd,List.map_nil,go_sem,seval];refine XZ [2,4,8,10,11,12,13] (fun _:Unit=> [(14,.p (.int .i64 (ML t sp k)))]) (fun _=> [Xd x t r c sp,Xv L,Xv XE,Bd 0 0 M,.elems 4 (M.times.map eTim)]) (fun _=>True) ?_ ?_
   ·refine Zj ?_;refine YF ?_ ?_<;>intro h
    ·have e:ML t sp k=(nth sp k).place:=by rw [ML,if_neg Za]
     exact ⟨(),Weak.mk (by simp (disch:=omega) only [Xd,Xv,XE,zShe,Bd,List.map_nil,e,go_sem,seval])⟩
    ·have e:ML t sp k=t.dst:=by rw [ML,if_pos Za]
     exact ⟨(),Weak.mk (by simp (disch:=omega) only [Xd,Xv,XE,zShe,Bd,List.map_nil,e,go_sem,seval])⟩
   ·intro _ _;refine Zd [31] _ _ _ _ ?_;simp (disch:=omega) only [Xd,Xv,XE,zShe,Bd,List.map_nil,go_sem,seval];refine WK (Zj ?_);refine ZK (Ha x t r c sp k hk Za) (Zj ?_);refine BW (dX x.net t.prof (EJ t sp k) (ML t sp k) (ZN t L b) hok.net Za) (Zj ?_);have hG:Q8 x.net t.prof (EJ t sp k) (ML t sp k) (ZN t L b)=Ao x t sp k (ZN t L b):=rfl;rw [hG];clear hG
    generalize Ao x t sp k (ZN t L b)=g at *
    generalize ZN t L b=d at *
    generalize WA L b=s at *
    refine cD ?_ ?_<;>intro h1<;>simp (disch:=omega) only [Sh.out h1,go_sem,seval,↓reduceIte]
    ·have e:Yw t sp k g d s M=(XE,12):=by rw [Yw,if_pos h1]
     rw [e];exact we (by simp (disch:=omega) only [XE,zShe,List.map_nil,go_sem,seval])
    ·refine cD ?_ ?_<;>intro h2<;>simp (disch:=omega) only [Sh.out h2,go_sem,seval,↓reduceIte]
     ·refine cD ?_ ?_<;>intro h3<;>simp (disch:=omega) only [Sh.out h3,go_sem,seval,↓reduceIte]
      ·have e:Yw t sp k g d s M=(XE,15):=by rw [Yw,if_neg h1,if_pos Za,if_pos h3]
       rw [e];exact we (by simp (disch:=omega) only [XE,zShe,List.map_nil,go_sem,seval])
      ·refine Zp (Weak.fz (o:=4) (by rfl)) (Zd [] _ _ _ _ (QT ?_));refine cD ?_ ?_<;>intro h4<;>simp (disch:=omega) only [Sh.out h4,go_sem,seval,↓reduceIte]
       ·have e:Yw t sp k g d s M=(XE,16):=by rw [Yw,if_neg h1,if_pos Za,if_neg h3,if_pos h4]
        rw [e];exact we (by simp (disch:=omega) only [XE,zShe,List.map_nil,go_sem,seval])
       ·have e:Yw t sp k g d s M=(⟨g.1,s+g.1-d,{ M with fin:=g.1,miles:=M.miles+g.2.1 }⟩,0):=by rw [Yw,if_neg h1,if_pos Za,if_neg h3,if_neg h4]
        have hMc:M.times_c=false:=by
         rw [<- hM,Z4,if_neg Za]
         grind
        rw [e];exact we (by simp (disch:=omega) only [hMc,go_sem,seval])
     ·have h2': ¬k=sp.length:=Za
      have hkl:k<sp.length:=Za
      have hstp:=hok.stp _ (Zq hkl);refine ZZ (Iq (nth sp k) g.1) ?_;unfold BM
      by_cases h3:(nth sp k).cls<max g.1 (nth sp k).opn
      ·have e:Yw t sp k g d s M=(XE,14):=by simp_all [Yw]
       rw [e,if_pos h3];refine Zj ?_;exact we (by simp (disch:=omega) only [XE,zShe,List.map_nil,go_sem,seval])
      ·rw [if_neg h3];refine Zj ?_;refine Zp (Weak.fz (o:=4) (by rfl)) (Zd [] _ _ _ _ (QT ?_));refine cD ?_ ?_<;>intro h4<;>simp (disch:=omega) only [Sh.out h4,go_sem,seval,↓reduceIte]
       ·have e:Yw t sp k g d s M=(XE,16):=by simp_all [Yw]
        rw [e];exact we (by simp (disch:=omega) only [XE,zShe,List.map_nil,go_sem,seval])
       ·have e:Yw t sp k g d s M=(⟨max g.1 (nth sp k).opn+(nth sp k).serv,s+g.1-d,{ M with times_c:=false,times:=M.times++ [⟨g.1,max g.1 (nth sp k).opn,0,false⟩],miles:=M.miles+g.2.1 }⟩,0):=by simp_all [Yw,if_neg]
        rw [e];exact we
theorem ED {x t sp k L b} (hs:0<sp.length) (hc:0<k->L.she.times_c=false) (he:(Xg x t sp k L b).2=0):(Xg x t sp k L b).1.she.times_c=false:=by
 have hm:0<k->(Z4 k (ZN t L b) b L.she).times_c=false:=fun h=>by rw [Z4,if_neg Za];exact hc h
 unfold Xg at he ⊢
 generalize Ao x t sp k (ZN t L b)=g at *
 generalize ZN t L b=d at *
 generalize WA L b=s at *
 generalize Z4 k d b L.she=m at *
 unfold Yw at he ⊢
 grind
structure LabO (n k:Nat) (L:Lab):Prop where
 rng:LabR k L
 len:k<=n->L.she.times.length=k
 clip:0<k->L.she.times_c=false
theorem Jw {x t sp k L b} (hok:TrpOk x t sp) (hs:0<sp.length) (hk:k<=sp.length) (h:LabO sp.length k L) (he:(Xg x t sp k L b).2=0):LabO sp.length (k+1) (Xg x t sp k L b).1 :=
 ⟨Dq hok hk h.rng he,fun hk2=>QD (h.len hk) he Za,fun _=>ED hs h.clip he⟩
theorem Jx {x t sp} (hok:TrpOk x t sp) {st:Int} (hst:0<=st/\st<=4096):LabO sp.length 0 (ZW t st) :=
 ⟨⟨by have:=hok.opn;grind [ZW],by simp [ZW],by simp [ZW,zShe]⟩,fun _=>rfl,fun h=>Za⟩
theorem Dp (x:Inst) (t:Typ) (r:Rte) (c:Bool) (sp:List Stp) (hok:TrpOk x t sp) (k:Nat) (hk:k<=sp.length) (hs1:0<sp.length) (L:Lab) (hL:LabO sp.length k L) (b:Bool) :
  PT 222 [.p (Af x t r c sp),.p (We L),.p (.int .i64 (k:Nat)),.p (.bool b)] [.p (We (Xg x t sp k L b).1),.p (.int .i64 (Xg x t sp k L b).2)] :=
 Pq x t r c sp hok k hk hs1 L hL.rng (hL.len hk) hL.clip b
theorem eK (x:Inst) (t:Typ) (r:Rte) (c:Bool) (sp:List Stp) (hok:TrpOk x t sp) (hs1:0<sp.length) (hst:0<=r.start/\r.start<=4096) (bs:List Bool) (d:Bool) (hb:bs.length=sp.length+1) :
  PT 194 [.p (Af x t r c sp),.p (.list d (bs.map eB))] [.p (BR (Z2 x t sp 0 (ZW t r.start) bs).1.she),.p (.int .i64 (Z2 x t sp 0 (ZW t r.start) bs).2)]:=by
 have hsl:=hok.len;refine Ze [] Tryz.func194 rfl OG ?_;simp (disch:=omega) only [Tryz.f194,go_sem,seval];refine (Jk x t r c sp).use (Zj ?_)
 refine Zn [2,4,6,13,14] (fun q:Nat×Lab=> [(15,.p (.int .i64 q.1))]) (fun q=> [Xd x t r c sp,.cells [.p (.bool false),.p (.int .i64 0),.p (.list true []),.p (.int .i64 0),.p (.int .i64 0)],Xv q.2])
  (fun q=>q.1<=bs.length/\Z2 x t sp 0 (ZW t r.start) bs=Z2 x t sp q.1 q.2 (bs.drop q.1)/\LabO sp.length q.1 q.2) (fun q=>bs.length-q.1) (0,ZW t r.start) ⟨Zb,Zb,Jx hok hst⟩ (Weak.mk ?_) ?_
 ·simp (disch:=omega) only [Xd,Xv,go_sem,seval]
 ·rintro ⟨k,L⟩ ⟨hk,hrun,hL⟩;simp only at hk hrun hL;simp (disch:=omega) only [Xd,Xv,go_sem,seval];refine cD ?_ ?_<;>intro h1<;>simp (disch:=omega) only [Sh.out h1,go_sem,seval,↓reduceIte]
  ·have hk2:k<bs.length:=Za
   have hdrop:bs.drop k=nth bs k::bs.drop (k+1):=by rw [List.drop_eq_getElem_cons hk2,Zh hk2]
   rw [hdrop,Z2] at hrun;have cn:=Dp x t r c sp hok k Za hs1 L hL (nth bs k);have hL2:=Jw (x:=x) (t:=t) (b:=nth bs k) hok hs1 Za hL
   generalize Xg x t sp k L (nth bs k)=N at *
   refine ZZ cn (Zj ?_);refine YF ?_ ?_<;>intro h2
   ·rw [hrun,if_neg h2];exact we (by simp (disch:=omega) only [XE,zShe,List.map_nil,go_sem,seval])
   ·rw [if_pos Za] at hrun;exact ⟨(k+1,N.1),⟨Za,hrun,hL2 Za⟩,Za,wk⟩
  ·have hkl:k=bs.length:=Za
   subst hkl;rw [List.drop_length,Z2] at hrun;rw [hrun];exact we
theorem Ip (l m:Lab):PC 225 [.p (We l),.p (We m)] (.bool (Zs l m)):=by
 refine Zc Tryz.func225 rfl OY ?_;simp (disch:=omega) only [Tryz.f225,go_sem,seval];refine gT ?_ ?_<;>intro h<;>simp (disch:=omega) only [Sh.out h,go_sem,seval,↓reduceIte]
 ·simp [Zs,h]
 ·simp [Zs,h]
def gH (x:Inst) (t:Typ) (r:Rte) (c:Bool) (sp:List Stp) (o:List Lab) (f z:Lab):List AM.Obj:= [Xd x t r c sp,.dead,.elems 7 (o.map We),Xv f,Xv z]
theorem IQ (x:Inst) (t:Typ) (r:Rte) (c:Bool) (sp:List Stp) (o:List Lab) (f z m:Lab):ACalls Tryz.prog 224 [.p (We m),.ptr 4 0] (gH x t r c sp o f z) fun y H'=>y= .p (.bool (Zs m z))/\H'=gH x t r c sp o f z:=by
 refine Ze [] Tryz.func224 rfl OX ?_;simp (disch:=omega) only [Tryz.f224,gH,Xd,Xv,go_sem,seval];refine (Ip m z).use (Zj ?_);exact we
theorem B2 (x:Inst) (t:Typ) (r:Rte) (c:Bool) (sp:List Stp) (o:List Lab) (f z:Lab) (hl:o.length<=2097152) :
  ACalls Tryz.prog 239 [.sl 2 0 o.length o.length,.fn (.func 224) [] [.ptr 4 0]] (gH x t r c sp o f z) fun y H'=>y= .p (.int .i64 (Mw (fun m=>Zs m z) o))/\H'=gH x t r c sp o f z:=by
 refine Ze [] Tryz.func239 rfl O5 ?_;simp (disch:=omega) only [Tryz.f239,gH,Xd,Xv,go_sem,seval];refine Zn [0,1,7] (fun k:Nat=> [(8,.p (.int .i64 k))]) (fun _=>gH x t r c sp o f z) (fun k=>k<=o.length/\ ∀j,j<k->Zs (nth o j) z=false) (fun k=>o.length-k) 0 Zb (Weak.mk ?_) ?_
 ·simp (disch:=omega) only [gH,Xd,Xv,go_sem,seval,↓reduceIte]
 ·rintro k ⟨hk,hno⟩;simp (disch:=omega) only [gH,Xd,Xv,go_sem,seval];refine cD ?_ ?_<;>intro h<;>simp (disch:=omega) only [Sh.out h,go_sem,seval,↓reduceIte]
  ·have hk2:k<o.length:=Za
   have hg:=IQ x t r c sp o f z (nth o k);simp (disch:=first | omega | (simp only [List.length_cons,List.length_nil,List.length_append,List.length_map,List.length_take,List.length_drop]<;>omega)) only [UP hk2,hk2,go_sem,seval,↓reduceIte];simp (disch:=omega) only [gH,Xd,Xv,go_sem,seval] at hg;refine hg.useH (Zj ?_);refine cD ?_ ?_<;>intro h2<;>simp (disch:=omega) only [Sh.out h2,go_sem,seval,↓reduceIte]
   ·rw [F7 (f:=fun m=>Zs m z) hk2 h2 hno];exact we
   ·exact ⟨k+1,⟨Za,ZF.2 ⟨hno,Za⟩⟩,Za,wk⟩
  ·have hkl:k=o.length:=Za
   subst hkl;rw [F9 hno];exact we
theorem Q6 (x:Inst) (t:Typ) (r:Rte) (c:Bool) (sp:List Stp) (o:List Lab) (f z:Lab) (hl:o.length<=2097152) :
  ACalls Tryz.prog 223 [.sl 2 0 o.length o.length,.fn (.func 224) [] [.ptr 4 0]] (gH x t r c sp o f z) fun y H'=>y= .p (.bool (o.any fun m=>Zs m z))/\H'=gH x t r c sp o f z:=by
 refine Ze [] Tryz.func223 rfl OW ?_;simp (disch:=omega) only [Tryz.f223,go_sem,seval];refine (B2 x t r c sp o f z hl).useH (Zj ?_);rw [F8];exact we (by simp (disch:=omega) only [gH,Xd,Xv,go_sem,seval])
def D8 (x:Inst) (t:Typ) (sp:List Stp) (r:List Bool) (k:Nat) (f:Lab) (bs:List Bool) (l:List Lab):List Lab:=bs.filterMap (ZT x t sp k f)++XG (ZT x t sp) (Yb r) k l
theorem NS (x:Inst) (t:Typ) (r:Rte) (c:Bool) (sp:List Stp) (hok:TrpOk x t sp) (hs1:0<sp.length) (k:Nat) (hk:k<=sp.length) (hrl:r.rests.length<=1048576) (l:List Lab) (d:Bool) (hl:l.length<=1048576) (hL: ∀L∈l,LabO sp.length k L) :
  PC 193 [.p (Af x t r c sp),.p (.list d (l.map We)),.p (.int .i64 (k:Nat))] (.list false ((ZL Zs [] (XG (ZT x t sp) (Yb r.rests) k l)).map We)):=by
 have hsl:=hok.len;refine Ze [2,16] Tryz.func193 rfl OF ?_;simp (disch:=omega) only [Tryz.f193,go_sem,seval];refine Zp (Weak.fz (o:=1) (by rfl)) (QT ?_);refine XZ [1,2,3] (fun cb:Bool=> [(7,.p (.list cb ((Yb r.rests k).map eB)))]) (fun _=> [Xd x t r c sp,.dead]) (fun _=>True) ?_ ?_
 ·refine Zj ?_;refine YF ?_ ?_<;>intro h
  ·have hk2:k<r.rests.length:=Za
   have e:Yb r.rests k=(r.rests.take (k+1)).drop k:=by
    grind [Yb,List.take_succ_eq_append_getElem]
   exact ⟨r.rests_c&&decide ((k:Int)+1=(r.rests.length:Int)),Weak.mk (by simp (disch:=omega) only [Xd,e,go_sem,seval])⟩
  ·have e:Yb r.rests k= [false,true]:=by grind [Yb]
   exact ⟨false,Weak.mk (by simp (disch:=omega) only [Xd,e,List.map_cons,List.map_nil,go_sem,seval])⟩
 ·intro cb _
  have hch:(Yb r.rests k).length<=2:=by grind [Yb]
  refine Zd [16] _ _ _ _ ?_;simp (disch:=omega) only [Xd,go_sem,seval]
  refine ZR [16] [2,3,7,29,30] (fun q:Nat×List Lab=> [(8,.sl 2 0 q.2.length q.2.length),(31,.p (.int .i64 q.1))]) (fun q=> [Xd x t r c sp,.dead,.elems 7 (q.2.map We)])
   (fun q=>q.1<=l.length/\ZL Zs [] (XG (ZT x t sp) (Yb r.rests) k l)=ZL Zs q.2 (XG (ZT x t sp) (Yb r.rests) k (l.drop q.1))/\q.2.length<=2*q.1) (fun q=>l.length-q.1) (0,[]) Zb (Weak.ofNil 8 7 rfl Zb (Weak.mk ?_)) ?_
  ·simp (disch:=omega) only [Xd,List.map_nil,List.length_nil,go_sem,seval]
  ·rintro ⟨i,o⟩ ⟨hi,hpr,hol⟩;simp only at hi hpr hol;simp (disch:=omega) only [Xd,go_sem,seval];refine cD ?_ ?_<;>intro h1<;>simp (disch:=omega) only [Sh.out h1,go_sem,seval,↓reduceIte]
   ·have hi2:i<l.length:=Za
    have hLi:=hL _ (Zq hi2)
    have hdrop:l.drop i=nth l i::l.drop (i+1):=by rw [List.drop_eq_getElem_cons hi2,Zh hi2]
    rw [hdrop] at hpr;have hpr:ZL Zs [] (XG (ZT x t sp) (Yb r.rests) k l)=ZL Zs o (D8 x t sp r.rests k (nth l i) ((Yb r.rests k).drop 0) (l.drop (i+1))):=hpr
    refine Zn [2,3,7,10,29,30,31,35,36] (fun q:Nat×List Lab=> [(8,.sl 2 0 q.2.length q.2.length),(37,.p (.int .i64 q.1))]) (fun q=> [Xd x t r c sp,.dead,.elems 7 (q.2.map We),Xv (nth l i)])
     (fun q=>q.1<=(Yb r.rests k).length/\ZL Zs [] (XG (ZT x t sp) (Yb r.rests) k l)=ZL Zs q.2 (D8 x t sp r.rests k (nth l i) ((Yb r.rests k).drop q.1) (l.drop (i+1)))/\q.2.length<=2*i+q.1) (fun q=>(Yb r.rests k).length-q.1) (0,o) ⟨Zb,hpr,hol⟩ (Weak.mk ?_) ?_
    ·simp (disch:=omega) only [Xd,Xv,go_sem,seval]
    ·clear hpr hol;rintro ⟨j,o⟩ ⟨hj,hpr,hol⟩;simp only at hj hpr hol;simp (disch:=omega) only [Xd,Xv,go_sem,seval];refine YF ?_ ?_<;>intro h2
     ·have hj2:j<(Yb r.rests k).length:=Za
      have hd2:(Yb r.rests k).drop j=nth (Yb r.rests k) j::(Yb r.rests k).drop (j+1):=by rw [List.drop_eq_getElem_cons hj2,Zh hj2]
      have cn:=Dp x t r c sp hok k hk hs1 (nth l i) hLi (nth (Yb r.rests k) j);have ho2:ZT x t sp k (nth l i) (nth (Yb r.rests k) j)=if (Xg x t sp k (nth l i) (nth (Yb r.rests k) j)).2=0 then some (Xg x t sp k (nth l i) (nth (Yb r.rests k) j)).1 else none:=rfl;rw [hd2,D8,List.filterMap_cons,ho2] at hpr
      generalize Xg x t sp k (nth l i) (nth (Yb r.rests k) j)=N at *
      refine ZZ cn (Zj ?_);refine aV ?_ ?_<;>intro h3
      ·have hcl:=Q6 x t r c sp o (nth l i) N.1 Za;simp (disch:=omega) only [gH,Xd,Xv,go_sem,seval] at hcl;refine hcl.useH (Zj ?_);rw [if_pos h3] at hpr;have hpr:ZL Zs [] (XG (ZT x t sp) (Yb r.rests) k l)=if (o.any fun m=>Zs m N.1)=true then ZL Zs o (D8 x t sp r.rests k (nth l i) ((Yb r.rests k).drop (j+1)) (l.drop (i+1))) else ZL Zs (o++ [N.1]) (D8 x t sp r.rests k (nth l i) ((Yb r.rests k).drop (j+1)) (l.drop (i+1))):=hpr;refine YF ?_ ?_<;>intro h4
       ·rw [if_neg (by grind)] at hpr;exact ⟨(j+1,o++ [N.1]),⟨Za,hpr,by simp;omega⟩,Za,Weak.mk (by simp (disch:=omega) only [List.length_append,List.length_cons,List.length_nil,List.map_append,List.map_cons,List.map_nil,go_sem,seval])⟩
       ·rw [if_pos (by grind)] at hpr;exact ⟨(j+1,o),⟨Za,hpr,by grind⟩,Za,wk⟩
      ·rw [if_neg h3] at hpr;exact ⟨(j+1,o),⟨Za,hpr,by grind⟩,Za,wk⟩
     ·have hjl:j=(Yb r.rests k).length:=Za
      subst hjl;rw [List.drop_length,D8,List.filterMap_nil,List.nil_append] at hpr;exact ⟨(i+1,o),⟨Za,hpr,by grind⟩,Za,wk⟩
   ·have hil:i=l.length:=Za
    subst hil;have e:XG (ZT x t sp) (Yb r.rests) k []= []:=rfl;rw [List.drop_length,e,ZL] at hpr;rw [hpr];refine Zp (Weak.fz (o:=2) (by rfl)) (Zd [] _ _ _ _ (QT ?_));exact we
def IE : PV:= .agg [.list true [],.list true [],.list true [],.list true [],.list true [],.list true [],.str [],.int .i64 0,.int .i64 0,.int .i64 0,.list true [],.int .i64 0,.int .i64 0,.int .i64 0,.int .i64 0,.int .i64 0,.int .i64 0,.int .i64 0,.int .i64 0,.int .i64 0,.int .i64 0,.int .i64 0,.list true [],.list true [],.list true []]
theorem Lr (x:Inst) (r:Rte) (hty:0<=r.typ/\r.typ<(x.types.length:Int)) (htl:x.types.length<=1048576) (hvl:r.visits.length<=20) (hs: ¬(0<=r.start/\r.start<=4096)) :
  PT 191 [.p (XQ x),.p (Vo r)] [.p IE,.p (.bool false)]:=by
 have e1: ¬r.typ<0:=Za
 have e2: ¬(x.types.length:Int)<=r.typ:=Za
 refine Ze [] Tryz.func191 rfl Gq ?_;simp (disch:=omega) only [Tryz.f191,e1,e2,go_sem,seval];refine gF ?_ ?_<;>intro h1<;>simp (disch:=omega) only [Sh.out h1,go_sem,seval,↓reduceIte]
 ·exact we (by simp (disch:=omega) only [IE,go_sem,seval])
 ·refine gF ?_ ?_<;>intro h2<;>simp (disch:=omega) only [Sh.out h2,go_sem,seval,↓reduceIte]
  ·exact we (by simp (disch:=omega) only [IE,go_sem,seval])
  ·omega
theorem AY {x t sp} : ∀(bs:List Bool) (k:Nat) (L:Lab),¬(Z2 x t sp k L bs).2=0->(Z2 x t sp k L bs).1=XE
 | [],k,L,h=>by simp [Z2] at h
 | b::bs,k,L,h=>by
  rw [Z2] at h ⊢
  split
  ·rename_i c;rw [if_pos c] at h;exact AY bs (k+1) _ h
  ·rfl
theorem Ei (n:Nat):List.replicate n false∈Xn (List.replicate n false):=by
 rw [Wg];simp
theorem F3 {l:List Lab} (h:Yp XL none l=none):l= []:=by
 cases l with
 | nil=>rfl
 | cons a l =>
  obtain ⟨z,hz,_⟩:=Y1 (fin:=XL) l a;have:Yp XL none (a::l)=Yp XL (some a) l:=rfl
  grind
theorem D6 {x t sp} {st:Int} {r:List Bool} (h:Yp XL none ((XD r (sp.length+1)).filterMap (Wj (ZT x t sp) 0 (ZW t st)))=none): ¬(Z2 x t sp 0 (ZW t st) (YS r (sp.length+1))).2=0:=fun h0=>by
 have h1:=F3 h;have h2:YS r (sp.length+1)∈XD r (sp.length+1):=List.mem_map.2 ⟨_,Ei _,rfl⟩
 simp_all [YE]
theorem BN {x t sp} {st:Int} {r:List Bool} (hr:r.length<=sp.length+1) (h:Yp XL none (Ws Zs (ZT x t sp) (Yb r) (sp.length+1) 0 [ZW t st])=none): ¬(Z2 x t sp 0 (ZW t st) (YS r (sp.length+1))).2=0 :=
 D6 (by rw [Jy,XN,Jp r _ hr] at h;exact h)
def YX (x:Inst) (r:Rte):She×Int:=if 0<=r.start/\r.start<=4096/\r.rests.length<=r.visits.length+1 then Z8 x r else (zShe,2)
theorem FE {x t sp} {ch:Nat->List Bool} {k:Nat} {l:List Lab} (hok:TrpOk x t sp) (hs:0<sp.length) (hk:k<=sp.length) (h: ∀L∈l,LabO sp.length k L): ∀L∈ZL Zs [] (XG (ZT x t sp) ch k l),LabO sp.length (k+1) L:=fun L hL=>by
 have h1:=Va Zs _ _ L hL;rw [List.nil_append] at h1;obtain ⟨a,ha,hb⟩:=List.mem_flatMap.1 h1
 grind [ZT,Jw]
theorem Ur : ∀(c out:List Lab),(ZL Zs out c).length<=out.length+c.length
 | [],out=>by simp [ZL]
 | x::c,out=>by
  rw [ZL]
  split
  ·have:=Ur c out;simp;omega
  ·have:=Ur c (out++ [x]);simp at this ⊢;omega
theorem Jl {x t sp} {r:List Bool} {k:Nat} : ∀l:List Lab,(XG (ZT x t sp) (Yb r) k l).length<=2*l.length
 | []=>by simp [XG]
 | a::l=>by
  have ih:=Jl (x:=x) (t:=t) (sp:=sp) (r:=r) (k:=k) l;have h1:(XG (ZT x t sp) (Yb r) k (a::l))=(Yb r k).filterMap (ZT x t sp k a)++XG (ZT x t sp) (Yb r) k l:=rfl
  grind [Yb]
theorem Lj (x:Inst) (r:Rte) (hx:InstOk x) (hl:r.visits.length<=1048576) (hrl:r.rests.length<=1048576) (hty:0<=r.typ/\r.typ<(x.types.length:Int)) (h0:Z1 x r.visits=0) :
  PT 156 [.p (XQ x),.p (Vo r)] [.p (BR (YX x r).1),.p (.int .i64 (YX x r).2)]:=by
 have hd:=VJ hx;have hsq:=XB h0;have hol:=hd.ord;have htl:=hd.typ;have hvl:=hsq.len hol;have hok:=Y9 hx hty hsq;have hsl:(Xc x r.visits).length=r.visits.length:=ZI
 have hs1:0<(Xc x r.visits).length:=by
  rw [hsl];have:=hsq.ne
  grind
 refine Ze [6,13,14] Tryz.func156 rfl Oe ?_;simp (disch:=omega) only [Tryz.f156,go_sem,seval]
 by_cases hs:0<=r.start/\r.start<=4096
 ·refine ZZ (PB x r hx hty h0 hs) (Zj ?_);refine cD ?_ ?_<;>intro h1<;>simp (disch:=omega) only [Sh.out h1,go_sem,seval,↓reduceIte]
  ·have e:YX x r=(zShe,2):=by rw [YX,if_neg Za]
   rw [e];exact we (by simp (disch:=omega) only [zShe,List.map_nil,go_sem,seval])
  ·have hrs:r.rests.length<=r.visits.length+1:=Za
   have e:YX x r=Z8 x r:=by simp_all [YX]
   have hbn:= @BN x (ZM x r) (Xc x r.visits) r.start r.rests Za;rw [e,Z8,Ke Za];refine (Jk x (ZM x r) r false (Xc x r.visits)).use (Zj ?_)
   generalize hT:ZM x r=t at *
   generalize hS:Xc x r.visits=sp at *
   refine Zp (Weak.fz (o:=4) (by rfl)) ?_;refine Zd [13,14] _ _ _ _ (Zj ?_)
   refine ZR [13,14] [3,4,6,8,38] (fun q:Nat×List Lab=> [(9,.p (.list false (q.2.map We))),(39,.p (.int .i64 q.1))]) (fun _=> [Zk x,Z7 r,.cells [.p (.bool false),.p (.int .i64 0),.p (.list true []),.p (.int .i64 0),.p (.int .i64 0)],Xd x t r false sp,.dead])
    (fun q=>q.1<=sp.length+1/\Ws Zs (ZT x t sp) (Yb r.rests) (sp.length+1) 0 [ZW t r.start]=Ws Zs (ZT x t sp) (Yb r.rests) (sp.length+1-q.1) q.1 q.2/\(∀L∈q.2,LabO sp.length q.1 L)/\q.2.length<=2^q.1) (fun q=>sp.length+1-q.1) (0,[ZW t r.start]) ⟨Zb,Zb,fun L hL=>by grind [Jx],Zb⟩ (Weak.mk ?_) ?_
   ·simp (disch:=omega) only [Zk,Z7,Xd,List.map_cons,List.map_nil,List.set_cons_succ,List.set_cons_zero,go_sem,seval]
   ·rintro ⟨k,l⟩ ⟨hk,hit,hlo,hll⟩;simp only at hk hit hlo hll;simp (disch:=omega) only [Zk,Z7,Xd,go_sem,seval];refine cD ?_ ?_<;>intro h2<;>simp (disch:=omega) only [Sh.out h2,go_sem,seval,↓reduceIte]
    ·have hk2:k<=sp.length:=Za
     have hp20:2^k<=2^20:=Nat.pow_le_pow_right Za Za;refine (NS x t r false sp hok hs1 k hk2 hrl l false Za hlo).use (Zj ?_)
     have hn:Ws Zs (ZT x t sp) (Yb r.rests) (sp.length+1-k) k l=Ws Zs (ZT x t sp) (Yb r.rests) (sp.length+1-(k+1)) (k+1) (ZL Zs [] (XG (ZT x t sp) (Yb r.rests) k l)):=by
      have e:sp.length+1-k=(sp.length+1-(k+1))+1:=Za
      rw [e,Ws]
     have hln:=Ur (XG (ZT x t sp) (Yb r.rests) k l) [];have hln2:=Jl (x:=x) (t:=t) (sp:=sp) (r:=r.rests) (k:=k) l;exact ⟨(k+1,ZL Zs [] (XG (ZT x t sp) (Yb r.rests) k l)),⟨Za,hit.trans hn,FE hok hs1 hk2 hlo,by grind⟩,Za,Weak.mk (by simp (disch:=omega) only [List.set_cons_succ,List.set_cons_zero,go_sem,seval])⟩
    ·have hkn:k=sp.length+1:=Za
     subst hkn;rw [Nat.sub_self,Ws] at hit;rw [hit] at hbn ⊢;clear hit;refine cD ?_ ?_<;>intro h3<;>simp (disch:=omega) only [Sh.out h3,go_sem,seval,↓reduceIte]
     ·have hl0:l= []:=List.eq_nil_of_length_eq_zero Za;subst hl0;have hbn:=hbn rfl;refine ZJ (UO 3 rfl rfl (Zj ?_));refine ⟨_,_,GV (e:=4) rfl Tryz.underlying91 Zg rfl rfl rfl ?_ ?_ ?_,?_⟩
      ·simp
      ·simp;omega
      ·intro q hq;obtain ⟨b,_,rfl⟩:=List.mem_map.1 hq
       rfl
      ·have hpl:(YS r.rests (sp.length+1)).length=sp.length+1:=by simp [YS];omega
       have hpad:r.rests.map eB++(PV.bool false::List.replicate r.visits.length (PV.bool false)).drop (r.rests.map eB).length=(YS r.rests (sp.length+1)).map eB:=by
        rw [YS,List.map_append,<- List.replicate_succ,List.drop_replicate,List.map_replicate,hsl,List.length_map];rfl
       have hcr:=eK x t r false sp hok hs1 hs (YS r.rests (sp.length+1)) false hpl;have hbad:=AY _ _ _ hbn;rw [hbad] at hcr;simp only [List.set_cons_succ,List.set_cons_zero];rw [hpad]
       generalize hRP:YS r.rests (sp.length+1)=rp at *
       refine Zp (Weak.fz (o:=5) (by rfl)) (Zd [] _ _ _ _ (QT ?_));rw [if_pos Za];refine ZZ hcr (Zj ?_);have hfm0:Yp XL none ([]:List Lab)=none:=rfl;rw [hfm0];exact we (by simp (disch:=omega) only [XE,zShe,List.map_nil,go_sem,seval])
     ·cases l with
      | nil=>simp at h3
      | cons l0 l =>
       have e0:WC ((l0::l).map We) 0=We l0:=rfl;have hn0:nth (l0::l) 0=l0:=rfl;simp (disch:=first | omega | (simp only [List.length_cons,List.length_nil,List.length_append,List.length_map,List.length_take,List.length_drop]<;>omega)) only [hn0,List.take_length,go_sem,seval];have hfm:Yp XL none (l0::l)=Yp XL (some l0) l:=rfl;rw [hfm]
       have hlen:l.length<=2097152:=by
        have hp20:2^(sp.length+1)<=2^21:=Nat.pow_le_pow_right Za Za
        grind
       refine Zn [4,12,65,66] (fun q:Nat×Lab=> [(67,.p (.int .i64 q.1))]) (fun q=> [Zk x,Z7 r,.cells [.p (.bool false),.p (.int .i64 0),.p (.list true []),.p (.int .i64 0),.p (.int .i64 0)],Xd x t r false sp,.dead,Xv q.2])
        (fun q=>q.1<=l.length/\Yp XL (some l0) l=Yp XL (some q.2) (l.drop q.1)) (fun q=>l.length-q.1) (0,l0) Zb (Weak.mk ?_) ?_
       ·simp (disch:=omega) only [Zk,Z7,Xd,Xv,go_sem,seval]
       ·rintro ⟨i,m⟩ ⟨hi,hm⟩;simp only at hi hm;simp (disch:=omega) only [Zk,Z7,Xd,Xv,go_sem,seval];refine cD ?_ ?_<;>intro h4<;>simp (disch:=omega) only [Sh.out h4,go_sem,seval,↓reduceIte]
        ·have hi2:i<l.length:=Za
         have hdrop:l.drop i=nth l i::l.drop (i+1):=by rw [List.drop_eq_getElem_cons hi2,Zh hi2]
         rw [hdrop,Yp] at hm;refine YF ?_ ?_<;>intro h5
         ·rw [if_pos (show XL (nth l i)<XL m from h5)] at hm;exact ⟨(i+1,nth l i),⟨Za,hm⟩,Za,wk⟩
         ·rw [if_neg (show ¬XL (nth l i)<XL m from h5)] at hm;exact ⟨(i+1,m),⟨Za,hm⟩,Za,wk⟩
        ·have hil:i=l.length:=Za
         subst hil;rw [List.drop_length,Yp] at hm;rw [hm];exact we
 ·have e:YX x r=(zShe,2):=by rw [YX,if_neg (fun h=>hs ⟨h.1,h.2.1⟩)]
  rw [e];refine ZZ (Lr x r hty htl hvl hs) ?_;simp (disch:=omega) only [IE,go_sem,seval];exact we (by simp (disch:=omega) only [zShe,List.map_nil,go_sem,seval])
end Go.Proofs.YtmbelkfkhclnkaaGreatDoor.K
namespace Go.AM
open Go.RowKit
theorem GI (k v:Int) (l:List (Int×Int)): ∃l',I6 (.int .i64 k) (.int .i64 v) (l.map eII)=l'.map eII/\(∀q,WT l' q=if q=k then v else WT l q)/\l'.length<=l.length+1:=by
 unfold I6;rw [Un]
 cases hm:JF l k with
 | none =>
  refine ⟨l++ [(k,v)],by simp [eII],fun q=> ?_,Zb⟩
  have e1:JF (l++ [(k,v)]) k=some l.length:=by
   grind [JF]
  by_cases hq:q=k
  ·grind [WT]
  ·rw [if_neg hq];unfold WT
   have e3:JF (l++ [(k,v)]) q=JF l q:=by
    grind [JF]
   rw [e3]
   cases hc:JF l q with
   | none=>rfl
   | some i =>
    unfold JF at hc
    grind [List.findIdx?_eq_some_iff_getElem]
 | some i =>
  refine ⟨l.set i (k,v),by simp_all [eII],?_,Zb⟩;have hH:Xt [.map (l.map eII)] 0= .map (l.map eII):=rfl;have:=B9 (H:= [.map (l.map eII)]) (o:=0) (l:=l) (k:=k) (i:=i) (v:=v) (K:=fun _ _=> ∀q,WT (l.set i (k,v)) q=if q=k then v else WT l q) hH hm fun h=>h;unfold W1 at this;obtain ⟨u,q1,_⟩:=Qz hm
  simp_all [QA]
theorem GJ {P:Program} {H:List Obj} {t:TypeId} {o:Nat} {l:List (Int×Int)} {k v:Int} {K:V->List Obj->Prop} (hT:GE P t=some (.int .i64,some (.int .i64 0))) (hH:Xt H o= .map (l.map eII))
  (h: ∀l':List (Int×Int),(∀q,WT l' q=if q=k then v else WT l q)->K .junk (H.set o (.map (l'.map eII)))):QA (Ji P H t (.mp o) (.p (.int .i64 k)) (.p (.int .i64 v))) K:=by
 obtain ⟨kt,et,h1,h2,h3⟩:=AC hT;obtain ⟨l',e,hg,_⟩:=GI k v l
 grind [Ji,JB,QA]
end Go.AM
namespace Go.Proofs.YtmbelkfkhclnkaaGreatDoor.K
open Go Go.AM Go.Proofs
set_option maxRecDepth 8000
set_option maxHeartbeats 8000000
def Qc (l:List Vis) (k:Nat) (q:Int):Int:=((l.take k).countP fun v=>decide (v.order=q):Nat)
theorem D9 {l:List Vis} {k:Nat} (h:k<l.length) (q:Int):Qc l (k+1) q=if q=(nth l k).order then Qc l k q+1 else Qc l k q:=by
 unfold Qc;rw [List.take_succ_eq_append_getElem h,List.countP_append,Zh h]
 grind
theorem FK {l:List Vis} {k:Nat} (h:k<=l.length) (q:Int):0<=Qc l k q/\Qc l k q<=k:=by
 grind [Qc,List.length_take]
theorem BP {l:List Vis} {k:Nat} :Qh l k=decide (Qc l k (nth l k).order=0):=by
 unfold Qh Qc;rw [Bool.eq_iff_iff];simp
theorem Vs (a b:Int):PC 195 [.p (.int .i64 a),.p (.int .i64 b)] (.bool (VF a b)):=by
 refine Zc Tryz.func195 rfl OH ?_;simp (disch:=omega) only [Tryz.f195,go_sem,seval];refine gT ?_ ?_<;>intro h<;>simp (disch:=omega) only [Sh.out h,go_sem,seval,↓reduceIte]
 ·simp [VF,h]
 simp_all [VF]
theorem G4 (x:Inst) (r:Rte) (s:She) (hty:0<=r.typ/\r.typ<(x.types.length:Int)) (ho:x.orders.length<=1048576) (ht:x.types.length<=1048576) (hl:r.visits.length<=1048576) (hv:Inr x r.visits)
  (hc:0<=(ZM x r).fixed/\(ZM x r).fixed<=100000/\0<=(ZM x r).perMile/\(ZM x r).perMile<=100/\0<=(ZM x r).perTick/\(ZM x r).perTick<=100) (ho2:0<=(ZM x r).opn/\(ZM x r).opn<=4096)
  (hf: -4096<=s.fin/\s.fin<=8192) (hm:0<=s.miles/\s.miles<=1000000) :
  PC 157 [.p (XQ x),.p (Vo r),.p (BR s)] (IC (LJ x r s)):=by
 have hti:r.typ.toNat<x.types.length:=Za
 have hT:GE Tryz.prog 264=some (.int .i64,some (.int .i64 0)):=Zg
 unfold LJ;have htd:nth x.types r.typ.toNat=ZM x r:=rfl
 generalize ZM x r=t at *
 have e1: ¬r.typ<0:=Za
 have e2: ¬(x.types.length:Int)<=r.typ:=Za
 have p1:0<=t.perMile*s.miles/\t.perMile*s.miles<=100*1000000:=⟨Int.mul_nonneg Za Za,Int.mul_le_mul Za Za Za Za⟩
 have hW: -8192<=s.fin-t.opn/\s.fin-t.opn<=8192:=Za
 have p2: -819200<=t.perTick*(s.fin-t.opn)/\t.perTick*(s.fin-t.opn)<=819200:=by
  generalize s.fin-t.opn=w at hW;have a1:=Int.mul_le_mul_of_nonneg_left hW.2 (show 0<=t.perTick by omega);have a2:=Int.mul_le_mul_of_nonneg_left hW.1 (show 0<=t.perTick by omega);omega
 have p3: -128<=(s.fin-t.opn).tdiv 64/\(s.fin-t.opn).tdiv 64<=128:=by
  grind
 have p4:0<=(s.fin-t.opn).tdiv 64*(s.fin-t.opn).tdiv 64/\(s.fin-t.opn).tdiv 64*(s.fin-t.opn).tdiv 64<=16384:=by
  generalize (s.fin-t.opn).tdiv 64=q at p3;refine ⟨?_,?_⟩
  ·rcases Int.le_total 0 q with h | h
   ·exact Int.mul_nonneg h h
   ·exact Int.mul_nonneg_of_nonpos_of_nonpos h h
  ·rcases Int.le_total 0 q with h | h
   ·have:=Int.mul_le_mul p3.2 p3.2 h Za;omega
   ·have h2:0<= -q:=Za
    have:=Int.mul_le_mul (show-q<=128 by omega) (show-q<=128 by omega) h2 Za
    grind
 refine Zc Tryz.func157 rfl Of ?_;simp (disch:=omega) only [Tryz.f157,e1,e2,htd,go_sem,seval]
 refine Zn [3,4,6,10,11,59,60] (fun q:Nat×List (Int×Int)=> [(61,.p (.int .i64 q.1))]) (fun q=> [Zk x,Z7 r,.cells [.p (.bool s.rest),.p (.int .i64 s.dep),.p (.list s.times_c (s.times.map eTim)),.p (.int .i64 s.fin),.p (.int .i64 s.miles)],Cx 0 0 0 0,P9 t,Cx (t.fixed+t.perMile*s.miles+t.perTick*(s.fin-t.opn)) (chgF x r.visits r.typ q.1).1 (chgF x r.visits r.typ q.1).2 ((s.fin-t.opn).tdiv 64*(s.fin-t.opn).tdiv 64),.map (q.2.map eII)])
  (fun q=>q.1<=r.visits.length/\ ∀n,WT q.2 n=Qc r.visits q.1 n) (fun q=>r.visits.length-q.1) (0,[]) ⟨Zb,fun n=>rfl⟩ (Weak.mk ?_) ?_
 ·simp (disch:=omega) only [Zk,Z7,P9,Cx,chgF,go_sem,seval]
 ·rintro ⟨k,m⟩ ⟨hk,hmg⟩;simp only at hk hmg;have hch:=Aa (x:=x) (l:=r.visits) (t:=r.typ) k;simp (disch:=omega) only [Zk,Z7,P9,Cx,go_sem,seval];refine cD ?_ ?_<;>intro h1<;>simp (disch:=omega) only [Sh.out h1,go_sem,seval,↓reduceIte]
  ·have hk2:k<r.visits.length:=Za
   obtain ⟨v1,v2⟩:=hv _ (Xh hk2)
   have e3: ¬(nth r.visits k).order<0:=Za
   have e4: ¬(x.orders.length:Int)<=(nth r.visits k).order:=Za
   have v3:(nth r.visits k).order.toNat<x.orders.length:=Za
   have hcs:=D9 hk2;have hcr:=FK hk (nth r.visits k).order;have hfi:=BP (l:=r.visits) (k:=k);have hch2:chgF x r.visits r.typ (k+1)=_:=chgF.eq_2 x r.visits r.typ k;refine Ay hT rfl ?_;rw [hmg];refine Zj ?_;refine GJ hT rfl fun m' hm'=> ?_
   have hmg': ∀n,WT m' n=Qc r.visits (k+1) n:=fun n=>by grind
   simp (disch:=omega) only [e3,e4,List.set_cons_succ,List.set_cons_zero,go_sem,seval];refine Ay hT rfl ?_;rw [hm',if_pos rfl];refine Zj ?_;refine YF ?_ ?_<;>intro h2
   ·have h3: ¬Qh r.visits k=true:=by grind
    rw [if_neg h3] at hch2;exact ⟨(k+1,m'),⟨Za,hmg'⟩,Za,Weak.mk (by simp (disch:=omega) only [hch2,go_sem,seval])⟩
   ·have h3:Qh r.visits k=true:=by grind
    rw [if_pos h3] at hch2;refine (Vs (nth x.orders (nth r.visits k).order.toNat).now r.typ).use (Zj ?_);refine cD ?_ ?_<;>intro h4<;>simp (disch:=omega) only [Sh.out h4,go_sem,seval,↓reduceIte]
    ·rw [if_pos h4] at hch2;refine (Vs (nth x.orders (nth r.visits k).order.toNat).last r.typ).use (Zj ?_);refine YF ?_ ?_<;>intro h5
     ·rw [if_pos h5] at hch2;exact ⟨(k+1,m'),⟨Za,hmg'⟩,Za,Weak.mk (by simp (disch:=omega) only [hch2,go_sem,seval])⟩
     ·rw [if_neg (by rw [h5];simp)] at hch2;exact ⟨(k+1,m'),⟨Za,hmg'⟩,Za,Weak.mk (by simp (disch:=omega) only [hch2,Int.add_zero,go_sem,seval])⟩
    ·rw [if_neg (by rw [h4];simp)] at hch2;refine (Vs (nth x.orders (nth r.visits k).order.toNat).last r.typ).use (Zj ?_);refine YF ?_ ?_<;>intro h5
     ·rw [if_pos h5] at hch2;exact ⟨(k+1,m'),⟨Za,hmg'⟩,Za,Weak.mk (by simp (disch:=omega) only [hch2,Int.add_zero,go_sem,seval])⟩
     ·rw [if_neg (by rw [h5];simp)] at hch2;exact ⟨(k+1,m'),⟨Za,hmg'⟩,Za,Weak.mk (by simp (disch:=omega) only [hch2,Int.add_zero,go_sem,seval])⟩
  grind
end Go.Proofs.YtmbelkfkhclnkaaGreatDoor.K
namespace Go.Proofs.YtmbelkfkhclnkaaGreatDoor.K
open Go Go.AM Go.Proofs
set_option maxRecDepth 8000
set_option maxHeartbeats 8000000
@[go_sem] theorem R6 {f:FuncId} :(PV.fn f).cells= [.fn f]:=Eq.trans rfl rfl
def PU : AM.Obj:= .cells [.p (.bool false),.p (.int .i64 0),.p (.list true []),.p (.int .i64 0),.p (.int .i64 0)]
theorem BU (x:Inst) (r:Rte) (hx:InstOk x) (hl:r.visits.length<=1048576) (hrl:r.rests.length<=1048576):ACalls Tryz.prog 112 [.p (XQ x),.p (Vo r)] [] fun y H'=>y=Ah x r/\H'= []:=by
 have hld:=VJ hx;have htl:=hld.typ;have hol:=hld.ord;have chk:=G5 x r hx hl
 have htb:x.types.length<=6:=by have:=hx.types.1;simp only [rng,decide_eq_true_eq] at this;omega
 refine Ze [] Tryz.func112 rfl NY ?_;simp (disch:=omega) only [Tryz.f112,go_sem,seval];refine gF ?_ ?_<;>intro h1<;>simp (disch:=omega) only [Sh.out h1,go_sem,seval,↓reduceIte]
 ·have e:X2 x r=2:=by rw [X2,if_pos Za]
  rw [Yo (e:=2) (by rw [ZD,e];rfl) Za];exact we (by simp (disch:=omega) only [zShe,zSco,List.map_nil,go_sem,seval])
 ·refine cD ?_ ?_<;>intro h2<;>simp (disch:=omega) only [Sh.out h2,go_sem,seval,↓reduceIte]
  ·have e:X2 x r=2:=by simp_all [X2]
   rw [Yo (e:=2) (by rw [ZD,e];rfl) Za];exact we (by simp (disch:=omega) only [zShe,zSco,List.map_nil,go_sem,seval])
  ·have hty:0<=r.typ/\r.typ<(x.types.length:Int):=Za
   have hti:r.typ.toNat<x.types.length:=Za
   have hnum:=Bm hx hti;have htyp:nth x.types r.typ.toNat=ZM x r:=rfl;rw [htyp] at hnum
   have hsk: ∀o∈x.orders,o.skills<9223372036854775808:=fun o hm=>by
    obtain ⟨i,hi,rfl⟩:=List.mem_iff_getElem.1 hm;have:=(hx.orders.2 i hi).skills
    grind [Zh]
   refine Zn [2,3,4,5,25,26] (fun k:Nat=> [(27,.p (.int .i64 k))]) (fun _=> [Zk x,Z7 r,PU,Cx 0 0 0 0,.elems 1 [.fn 153,.fn 154,.fn 155]])
    (fun k=>k<=3/\(0<k->Z1 x r.visits=0)/\(1<k-> ¬(r.visits.any fun v=> !YU (ZM x r) (nth x.orders v.order.toNat).skills)=true)/\(2<k->Qu x (ZM x r).cap r.visits=true)) (fun k=>3-k) 0 ⟨Za,Za,Za,Za⟩ (Weak.mk ?_) ?_
   ·simp (disch:=omega) only [Zk,Z7,Cx,PU,go_sem,seval]
   ·rintro k ⟨hk,k1,k2,k3⟩;simp (disch:=omega) only [Zk,Z7,Cx,PU,go_sem,seval];refine cD ?_ ?_<;>intro h3<;>simp (disch:=omega) only [Sh.out h3,go_sem,seval,↓reduceIte]
    ·by_cases hk0:k=0
     ·subst hk0;have he:WC [PV.fn 153,PV.fn 154,PV.fn 155] 0=PV.fn 153:=rfl;simp (disch:=first | omega | (simp only [List.length_cons,List.length_nil,List.length_append,List.length_map,List.length_take,List.length_drop]<;>omega)) only [he,go_sem,seval,↓reduceIte];refine (chk).use (Zj ?_);refine YF ?_ ?_<;>intro h4
      ·have e:X2 x r=Z1 x r.visits:=by simp_all [X2]
       rw [Yo (e:=Z1 x r.visits) (by simp_all [ZD]) h4];exact we (by simp (disch:=omega) only [zShe,zSco,List.map_nil,go_sem,seval])
      ·exact ⟨1,⟨Za,fun _=>Za,Za,Za⟩,Za,wk⟩
     ·have h0:=k1 Za;have hsq:=XB h0
      have hr0:X2 x r=if (r.visits.any fun v=> !YU (ZM x r) (nth x.orders v.order.toNat).skills)=true then 18 else if Qu x (ZM x r).cap r.visits=false then 17 else if ¬(0<=r.start/\r.start<=4096/\r.rests.length<=r.visits.length+1) then 2 else 0:=by
       rw [X2,if_neg (fun h=>h hty),if_neg Za]
      by_cases hk1:k=1
      ·subst hk1;have he:WC [PV.fn 153,PV.fn 154,PV.fn 155] 1=PV.fn 154:=rfl;simp (disch:=first | omega | (simp only [List.length_cons,List.length_nil,List.length_append,List.length_map,List.length_take,List.length_drop]<;>omega)) only [he,go_sem,seval,↓reduceIte];refine (G3 x r hty (fun v hv=>by have:=hsq.inr v hv;grind [inB]) hl htl Za Za hsk).use (Zj ?_)
       by_cases h5:(r.visits.any fun v=> !YU (ZM x r) (nth x.orders v.order.toNat).skills)=true
       ·rw [if_pos h5] at hr0 ⊢;rw [Yo (e:=18) (by rw [ZD,hr0];rfl) Za];refine Zj ?_;exact we (by simp (disch:=omega) only [zShe,zSco,List.map_nil,go_sem,seval])
       ·rw [if_neg h5];refine Zj ?_;exact ⟨2,⟨Za,fun _=>h0,fun _=>h5,Za⟩,Za,wk⟩
      ·have hk2:k=2:=Za
       subst hk2;have he:WC [PV.fn 153,PV.fn 154,PV.fn 155] 2=PV.fn 155:=rfl;simp (disch:=first | omega | (simp only [List.length_cons,List.length_nil,List.length_append,List.length_map,List.length_take,List.length_drop]<;>omega)) only [he,go_sem,seval,↓reduceIte];refine (G1 x r hx hl hty h0).use (Zj ?_);rw [if_neg (k2 Za)] at hr0
       cases h5:Qu x (ZM x r).cap r.visits with
       | false =>
        rw [if_pos h5] at hr0;rw [Yo (e:=17) (by rw [ZD,hr0];rfl) Za];simp only [Bool.false_eq_true,if_false];refine Zj ?_;exact we (by simp (disch:=omega) only [zShe,zSco,List.map_nil,go_sem,seval])
       | true =>
        simp only [if_true];refine Zj ?_;exact ⟨3,⟨Za,fun _=>h0,fun _=>k2 Za,fun _=>Zb⟩,Za,wk⟩
    ·have hk3:k=3:=Za
     subst hk3;have h0:=k1 Za;have hsq:=XB h0
     have hr0:X2 x r=if ¬(0<=r.start/\r.start<=4096/\r.rests.length<=r.visits.length+1) then 2 else 0:=by
      rw [X2,if_neg (fun h=>h hty),if_neg Za,if_neg (k2 Za),if_neg (by grind)]
     have cb:=Lj x r hx hl hrl hty h0;have hok:=Y9 hx hty hsq
     have hbr:YX x r=Z8 x r->(Z8 x r).2=0->(0<=r.start/\r.start<=4096/\r.rests.length<=r.visits.length+1)->(0<=(Z8 x r).1.fin/\(Z8 x r).1.fin<=8192)/\(0<=(Z8 x r).1.miles/\(Z8 x r).1.miles<=210000):=fun _ hz hs =>
      K7 hok ⟨hs.1,hs.2.1⟩ (by grind [ZI]) hz
     by_cases h6:0<=r.start/\r.start<=4096/\r.rests.length<=r.visits.length+1
     ·have e:X2 x r=0:=Za
      have ee:ZD x r=(Z8 x r).2:=by rw [ZD,if_pos e]
      have eb:YX x r=Z8 x r:=by rw [YX,if_pos h6]
      have hbr:=fun hz=>hbr eb hz h6;rw [eb] at cb
      have es:ZP x r=if (Z8 x r).2=0 then (Z8 x r).1 else zShe:=by rw [ZP,ee]
      have ep:Jo x r=if (Z8 x r).2=0 then LJ x r (Z8 x r).1 else zSco:=by rw [Jo,ee]
      unfold Ah;rw [ee,es,ep];clear ee es ep eb
      generalize Z8 x r=q at *
      obtain ⟨sh,eb⟩:=q;simp only at cb hbr ⊢;refine ZZ cb (Zj ?_);refine cD ?_ ?_<;>intro h7<;>simp (disch:=omega) only [Sh.out h7,go_sem,seval,↓reduceIte]
      ·exact we (by simp (disch:=omega) only [zShe,zSco,List.map_nil,go_sem,seval])
      ·have h7':eb=0:=Za
       try rw [if_pos h7',if_pos h7']
       subst h7';obtain ⟨g1,g2⟩:=hbr rfl;refine XC 5 mixed Zg Zg (Zj ?_);refine ZK (G4 x r sh hty Za htl hl hsq.inr hnum.2.2.2.1 Za Za Za) (Zj ?_);exact we
     ·have e:X2 x r=2:=Za
      have eb:YX x r=(zShe,2):=by rw [YX,if_neg h6]
      rw [Yo (e:=2) (by rw [ZD,e];rfl) Za];rw [eb] at cb;refine ZZ cb (Zj ?_);exact we (by simp (disch:=omega) only [zShe,zSco,List.map_nil,go_sem,seval])
theorem XK {x:Inst} {r:Rte} (h:ZD x r=0):X2 x r=0:=by
 grind [ZD]
theorem Ys {x:Inst} {r:Rte} (h:X2 x r=0):(0<=r.typ/\r.typ<(x.types.length:Int))/\Z1 x r.visits=0/\(0<=r.start/\r.start<=4096/\r.rests.length<=r.visits.length+1):=by
 unfold X2 at h;omega
theorem Ai {x:Inst} {r:Rte} (hx:InstOk x) (h:ZD x r=0):(0<=(ZP x r).fin/\(ZP x r).fin<=8192)/\(0<=(ZP x r).miles/\(ZP x r).miles<=210000):=by
 obtain ⟨hty,h0,hs⟩:=Ys (XK h)
 have e:ZP x r=(Z8 x r).1:=by rw [ZP,if_pos h]
 have ee:(Z8 x r).2=0:=by rw [ZD,if_pos (XK h)] at h;exact h
 rw [e];exact K7 (Y9 hx hty (XB h0)) ⟨hs.1,hs.2.1⟩ (by grind [ZI]) ee
def YG (x:Inst):List Rte->Int
 | []=>0
 | r::l=>if ZD x r=0 then YG x l else ZD x r
theorem C8 {x:Inst} : ∀ {l:List Rte} {k:Nat},k<l.length->(∀j,j<k->ZD x (nth l j)=0)-> ¬ZD x (nth l k)=0->YG x l=ZD x (nth l k)
 | r::l,0,_,_,h=>by rw [YG,if_neg (show ¬ZD x r=0 from h)];rfl
 | r::l,k+1,hk,h0,h=>by
  rw [YG,if_pos (show ZD x r=0 from h0 0 Za)];exact C8 (l:=l) (k:=k) (by grind) (fun j hj=>h0 (j+1) Za) h
theorem C9 {x:Inst} : ∀ {l:List Rte},(∀j,j<l.length->ZD x (nth l j)=0)->YG x l=0
 | [],_=>rfl
 | r::l,h=>by
  rw [YG,if_pos (show ZD x r=0 from h 0 Zb)];exact C9 fun j hj=>h (j+1) (by grind)
theorem MG {x:Inst} (hx:InstOk x):x.orders.length<=10:=by have:=hx.orders.1;omega
structure Row where
 rt:Int
 v:Vis
 place:Int
 tm:Tim
 load_c:Bool
 load:List Int
 deriving Inhabited
def Xu (r:Row):PV:= .agg [.int .i64 r.rt,.int .i64 r.v.order,.bool r.v.drp,.int .i64 r.place,.int .i64 r.tm.arr,.int .i64 r.tm.beg,.int .i64 r.tm.dep,.bool r.tm.rest,.list r.load_c (r.load.map eI)]
@[go_sem] theorem iP (r:Row):Xu r= .agg [.int .i64 r.rt,.int .i64 r.v.order,.bool r.v.drp,.int .i64 r.place,.int .i64 r.tm.arr,.int .i64 r.tm.beg,.int .i64 r.tm.dep,.bool r.tm.rest,.list r.load_c (r.load.map eI)]:=Eq.trans rfl rfl
@[go_sem] theorem dQ (l:List Row):Q1 9 (l.map Xu)=true:=Dr fun _=>rfl
structure Ttb where
 rte:Rte
 she:She
 rows_c:Bool
 rows:List Row
 deriving Inhabited
def Ed (t:Ttb):PV:= .agg [.int .i64 t.rte.typ,.int .i64 t.rte.start,.list t.rte.rests_c (t.rte.rests.map eB),.list t.rte.visits_c (t.rte.visits.map Xb),.bool t.she.rest,.int .i64 t.she.dep,.list t.she.times_c (t.she.times.map eTim),.int .i64 t.she.fin,.int .i64 t.she.miles,.list t.rows_c (t.rows.map Xu)]
@[go_sem] theorem iW (t:Ttb):Ed t= .agg [.int .i64 t.rte.typ,.int .i64 t.rte.start,.list t.rte.rests_c (t.rte.rests.map eB),.list t.rte.visits_c (t.rte.visits.map Xb),.bool t.she.rest,.int .i64 t.she.dep,.list t.she.times_c (t.she.times.map eTim),.int .i64 t.she.fin,.int .i64 t.she.miles,.list t.rows_c (t.rows.map Xu)]:=Eq.trans rfl rfl
def Wv (x:Inst) (i:Nat) (r:Rte) (k:Nat):Row:=⟨i,nth r.visits k,(stopV x (nth r.visits k)).place,nth (ZP x r).times k,false,nth (WR x r.visits) (k+1)⟩
def Xo (x:Inst) (i:Nat) (r:Rte) (k:Nat):List Row:=(List.range k).map (Wv x i r)
def WB (x:Inst) (i:Nat) (r:Rte):Ttb:=⟨r,ZP x r,false,Xo x i r r.visits.length⟩
def Ww (x:Inst) (l:List Rte) (k:Nat):List Ttb:=(List.range k).map fun i=>WB x i (nth l i)
def YB (x:Inst) (l:List Rte) (k:Nat):List Row:=((List.range k).map fun i=>Xo x i (nth l i) (nth l i).visits.length).flatten
theorem UF {x:Inst} {i:Nat} {r:Rte} {k:Nat} :Xo x i r (k+1)=Xo x i r k++ [Wv x i r k]:=by grind [Xo,List.range_succ]
theorem Z0 {x:Inst} {i:Nat} {r:Rte} {k:Nat} :(Xo x i r k).length=k:=by simp [Xo]
theorem CH {x:Inst} {l:List Rte} {k:Nat} :Ww x l (k+1)=Ww x l k++ [WB x k (nth l k)]:=by grind [Ww,List.range_succ]
theorem XX {x:Inst} {l:List Rte} {k:Nat} :(Ww x l k).length=k:=by simp [Ww]
theorem Ul {x:Inst} {l:List Rte} {k:Nat} :YB x l (k+1)=YB x l k++Xo x k (nth l k) (nth l k).visits.length:=by
 grind [YB,List.range_succ]
theorem W4 {x:Inst} {r:Rte} (h:ZD x r=0):(ZP x r).times.length=r.visits.length:=by
 obtain ⟨_,_,hs⟩:=Ys (XK h)
 have e:ZP x r=(Z8 x r).1:=by rw [ZP,if_pos h]
 have ee:(Z8 x r).2=0:=by rw [ZD,if_pos (XK h)] at h;exact h
 rw [e,<- ZI (x:=x)];exact bestF_len (by grind [ZI]) ee
theorem Et {x:Inst} {l:List Vis} :(WR x l).length=l.length+1:=by simp [WR]
def B5 (r:Rte):AM.Obj:= .cells [.p (.int .i64 r.typ),.p (.int .i64 r.start),.p (.list r.rests_c (r.rests.map eB)),.p (.list r.visits_c (r.visits.map Xb))]
def Qv (s:She):AM.Obj:= .cells [.p (.bool s.rest),.p (.int .i64 s.dep),.p (.list s.times_c (s.times.map eTim)),.p (.int .i64 s.fin),.p (.int .i64 s.miles)]
def B6 (s:Sco):AM.Obj:= .cells [.p (.int .i64 s.cost),.p (.int .i64 s.moved),.p (.int .i64 s.other),.p (.int .i64 s.work)]
def B7 (r:Rte) (s:She) (o n:Nat):AM.Obj:= .cells [.p (.int .i64 r.typ),.p (.int .i64 r.start),.p (.list r.rests_c (r.rests.map eB)),.p (.list r.visits_c (r.visits.map Xb)),.p (.bool s.rest),.p (.int .i64 s.dep),.p (.list s.times_c (s.times.map eTim)),.p (.int .i64 s.fin),.p (.int .i64 s.miles),.sl o 0 n n]
def pdep (s:She):Nat->Int
 | 0=>s.dep
 | i+1=>(nth s.times i).dep
structure LabS (sp:List Stp) (k:Nat) (L:Lab):Prop where
 len:L.she.times.length=k
 seg: ∀i,i<k->((nth L.she.times i).arr<=(nth L.she.times i).beg/\0<=(nth L.she.times i).arr/\(nth L.she.times i).beg<=4096)/\pdep L.she i<=(nth L.she.times i).arr
 dep: ∀i,i+1<k->(nth L.she.times i).beg+(nth sp i).serv<=(nth L.she.times i).dep
 fst:0<k->0<=L.she.dep
 rdy: ∀i,i+1=k->L.ready=(nth L.she.times i).beg+(nth sp i).serv
 ge:0<=L.ready
structure SheOk (sp:List Stp) (s:She):Prop where
 len:s.times.length=sp.length
 seg: ∀i,i<sp.length->((nth s.times i).arr<=(nth s.times i).beg/\0<=(nth s.times i).arr/\(nth s.times i).beg<=4096)/\pdep s i<=(nth s.times i).arr
 dep: ∀i,i<sp.length->(nth s.times i).beg+(nth sp i).serv<=(nth s.times i).dep
 fst:0<=s.dep
 lst:pdep s sp.length<=s.fin
theorem GN {α:Type} [Inhabited α] {l:List α} {i j:Nat} {a:α} (h:i<l.length):nth (l.set i a) j=if i=j then a else nth l j:=by
 grind [nth]
theorem GO {α:Type} [Inhabited α] {l:List α} {j:Nat} {a:α} (h:j<l.length):nth (l++ [a]) j=nth l j:=by
 grind [nth]
theorem GM {α:Type} [Inhabited α] {l:List α} {a:α} :nth (l++ [a]) l.length=a:=by
 grind [nth]
structure MarkS (sp:List Stp) (k:Nat) (d:Int) (m:She):Prop where
 len:m.times.length=k
 seg: ∀i,i<k->((nth m.times i).arr<=(nth m.times i).beg/\0<=(nth m.times i).arr/\(nth m.times i).beg<=4096)/\pdep m i<=(nth m.times i).arr
 dep: ∀i,i<k->(nth m.times i).beg+(nth sp i).serv<=(nth m.times i).dep
 fst:0<=m.dep
 cur:pdep m k=d
theorem Do {sp:List Stp} {k:Nat} {L:Lab} {d:Int} {b:Bool} (h:LabS sp k L) (hd:L.ready<=d):MarkS sp k d (Z4 k d b L.she):=by
 have hge:=h.ge
 cases k with
 | zero =>
  have e:Z4 0 d b L.she= { L.she with rest:=b,dep:=d } :=by simp [Z4]
  rw [e];exact ⟨h.len,fun i hi=>Za,fun i hi=>Za,by grind,rfl⟩
 | succ k =>
  have hl:=h.len;have hr:=h.rdy k rfl
  have e:Z4 (k+1) d b L.she= { L.she with times:=L.she.times.set k { nth L.she.times k with dep:=d,rest:=b } } :=by rfl
  rw [e];have hn: ∀i,nth (L.she.times.set k { nth L.she.times k with dep:=d,rest:=b }) i=if k=i then { nth L.she.times k with dep:=d,rest:=b } else nth L.she.times i:=fun i=>GN Za;refine ⟨by grind,fun i hi=> ?_,fun i hi=> ?_,h.fst Za,?_⟩
  ·have hs:=h.seg i hi
   have ha:(nth (L.she.times.set k { nth L.she.times k with dep:=d,rest:=b }) i).arr=(nth L.she.times i).arr/\(nth (L.she.times.set k { nth L.she.times k with dep:=d,rest:=b }) i).beg=(nth L.she.times i).beg:=by
    grind
   simp only;rw [ha.1,ha.2];refine ⟨hs.1,?_⟩
   cases i with
   | zero=>exact hs.2
   | succ i =>
    simp only [pdep] at hs ⊢
    grind
  ·simp only;rw [hn]
   split
   ·grind
   ·exact h.dep i Za
  ·simp only [pdep]
   grind
theorem Lb {x:Inst} {t:Typ} {sp:List Stp} {k:Nat} {L:Lab} {b:Bool} (hT:TrpOk x t sp) (hk:k<sp.length) (h:LabS sp k L) (he:(Xg x t sp k L b).2=0):LabS sp (k+1) (Xg x t sp k L b).1:=by
 have hrs:=hT.rst
 have hd:L.ready<=ZN t L b:=by grind [ZN]
 have hge:=h.ge;have hm:=Do (b:=b) h hd;have hgo:(Ao x t sp k (ZN t L b)).2.2=0->ZN t L b<=(Ao x t sp k (ZN t L b)).1:=fun e=>Gg hT.net e;have hst:=hT.stp _ (Zq hk);unfold Xg at he ⊢
 generalize Ao x t sp k (ZN t L b)=g at *
 generalize ZN t L b=d at *
 generalize WA L b=s at *
 generalize Z4 k d b L.she=m at *
 have hk2: ¬k=sp.length:=Za
 unfold Yw at he ⊢;simp only [if_neg hk2] at he ⊢
 split at he
 ·simp at he
 ·rename_i c1;rw [if_neg c1];have hg:=hgo Za
  split at he
  ·simp at he
  ·rename_i c2;rw [if_neg c2]
   split at he
   ·simp at he
   ·rename_i c3;rw [if_neg c3];have hml:=hm.len;have hn: ∀i,i<k->nth (m.times++ [⟨g.1,max g.1 (nth sp k).opn,0,false⟩]) i=nth m.times i:=fun i hi=>GO Za
    have hl:nth (m.times++ [(⟨g.1,max g.1 (nth sp k).opn,0,false⟩:Tim)]) k=⟨g.1,max g.1 (nth sp k).opn,0,false⟩:=by grind [GM]
    refine ⟨by simp [hml],fun i hi=> ?_,fun i hi=> ?_,fun _=>hm.fst,fun i hi=> ?_,by grind⟩
    ·have hpd:pdep { m with times_c:=false,times:=m.times++ [⟨g.1,max g.1 (nth sp k).opn,0,false⟩],miles:=m.miles+g.2.1 } i=pdep m i:=by
      cases i with
      | zero=>rfl
      | succ i=>grind [pdep]
     simp only at hpd ⊢;rw [hpd]
     by_cases e:i=k
     ·subst e;rw [hl,hm.cur]
      grind
     ·rw [hn i Za];exact hm.seg i Za
    ·simp only;rw [hn i Za];exact hm.dep i Za
    grind
theorem La {x:Inst} {t:Typ} {sp:List Stp} {L:Lab} {b:Bool} (hT:TrpOk x t sp) (h:LabS sp sp.length L) (he:(Xg x t sp sp.length L b).2=0):SheOk sp (Xg x t sp sp.length L b).1.she:=by
 have hrs:=hT.rst
 have hd:L.ready<=ZN t L b:=by grind [ZN]
 have hm:=Do (b:=b) h hd;have hgo:(Ao x t sp sp.length (ZN t L b)).2.2=0->ZN t L b<=(Ao x t sp sp.length (ZN t L b)).1:=fun e=>Gg hT.net e;unfold Xg at he ⊢
 generalize Ao x t sp sp.length (ZN t L b)=g at *
 generalize ZN t L b=d at *
 generalize WA L b=s at *
 generalize Z4 sp.length d b L.she=m at *
 unfold Yw at he ⊢;simp only [if_true] at he ⊢
 split at he
 ·simp at he
 ·rename_i c1;rw [if_neg c1];have hg:=hgo Za
  split at he
  ·simp at he
  ·rename_i c2;rw [if_neg c2]
   split at he
   ·simp at he
   ·rename_i c3;rw [if_neg c3]
    have hpd: ∀i,pdep { m with fin:=g.1,miles:=m.miles+g.2.1 } i=pdep m i:=fun i=>by rfl
    refine ⟨hm.len,fun i hi=> ?_,hm.dep,hm.fst,?_⟩
    ·rw [hpd];exact hm.seg i hi
    ·rw [hpd,hm.cur];exact hg
theorem DA {x:Inst} {t:Typ} {sp:List Stp} (hT:TrpOk x t sp): ∀(bs:List Bool) (k:Nat) (L:Lab),LabS sp k L->k+bs.length=sp.length+1->0<bs.length->(Z2 x t sp k L bs).2=0->SheOk sp (Z2 x t sp k L bs).1.she
 | [],k,L,_,_,h3,_=>by simp at h3
 | b::bs,k,L,h1,h2,_,h=>by
  rw [Z2] at h ⊢
  by_cases h4:(Xg x t sp k L b).2=0
  ·simp only [h4,if_true] at h ⊢
   cases bs with
   | nil =>
    simp_all [Z2,La]
   | cons b2 bs =>
    simp at h2;exact DA hT (b2::bs) (k+1) _ (Lb hT Za h1 h4) (by simp;omega) Zb h
  grind
theorem FR {x:Inst} {r:Rte} (hx:InstOk x) (h:ZD x r=0):SheOk (Xc x r.visits) (ZP x r):=by
 obtain ⟨hty,h0,hs⟩:=Ys (XK h)
 have e:ZP x r=(Z8 x r).1:=by rw [ZP,if_pos h]
 have ee:(Z8 x r).2=0:=by rw [ZD,if_pos (XK h)] at h;exact h
 have hT:=Y9 hx hty (XB h0);obtain ⟨bs,hb1,hb2,hb3⟩:=D5 (by grind [ZI]) ee;have hb3:(Z8 x r).1=_:=hb3;rw [e,hb3];have hop:=hT.opn;refine DA hT bs 0 _ ⟨rfl,fun i hi=>Za,fun i hi=>Za,fun h=>Za,fun i hi=>Za,?_⟩ Za Za hb2
 grind [ZW]
theorem Ag {x:Inst} {l:List Rte} :YG x l=0↔ ∀r∈l,ZD x r=0:=by
 induction l with
 | nil=>simp [YG]
 | cons r l ih =>
  rw [YG]
  grind
set_option maxRecDepth 60000
theorem Wn (x:Inst) (p:Pln) (hx:InstOk x) (hr:p.routes.length<=1048576) (hb: ∀r∈p.routes,Hj r) :
  ACalls Tryz.prog 72 [.p (XQ x),.p (Eb p)] [] fun y H'=>y=(if YG x p.routes=0 then .tup [.p (.list false ((Ww x p.routes p.routes.length).map Ed)),.p (.int .i64 0)] else .tup [.p (.list true []),.p (.int .i64 (YG x p.routes))])/\H'= []:=by
 have hn:=MG hx;refine Ze [2,20] Tryz.func72 rfl cO ?_;simp (disch:=omega) only [Tryz.f72,go_sem,seval];refine Zp (Weak.nil 6 10 (by rfl) Zb) ?_;refine Zd [20] _ _ _ _ ?_;simp (disch:=omega) only [List.set_cons_succ,List.set_cons_zero,List.cons_append,List.nil_append,List.length_cons,List.length_nil,go_sem,seval];refine ZR [12,18] [2,19,20] (fun k:Nat=> [(6,.sl 2 0 k k),(21,.p (.int .i64 k))]) (fun k=> [Zk x,Xw p,.elems 10 ((Ww x p.routes k).map Ed)]) (fun k=>k<=p.routes.length/\ ∀j,j<k->ZD x (nth p.routes j)=0) (fun k=>p.routes.length-k) 0 Zb (Weak.mk ?_) ?_
 ·simp (disch:=omega) only [Zk,Xw,Ww,List.range_zero,List.map_nil,go_sem,seval]
 ·rintro k ⟨hk,hz⟩;simp (disch:=omega) only [Zk,Xw,go_sem,seval];refine cD ?_ ?_<;>intro h1<;>simp (disch:=omega) only [Sh.out h1,go_sem,seval]
  ·have hk2:k<p.routes.length:=Za
   have hm:=Zq hk2;obtain ⟨b1,b2⟩:=hb _ hm;have ce:=BU x (nth p.routes k) hx b1 b2;unfold Ah at ce;refine MN ce ?_;simp (disch:=omega) only [go_sem,seval];refine cD ?_ ?_<;>intro h2<;>simp (disch:=omega) only [Sh.out h2,go_sem,seval]
   ·have her:=C8 hk2 hz h2;rw [if_neg (by rw [her];exact h2),her];exact we
   ·have hz0:ZD x (nth p.routes k)=0:=Za
    obtain ⟨hty,hsq,_⟩:=Ys (XK hz0);refine ZZ (AT x (nth p.routes k) hx b1 hsq) ?_;simp (disch:=omega) only [go_sem,seval];refine Zp (Weak.nilC (o:=6) (j:=9) 9 (by rfl) (by rfl) Zb) ?_;have htl:=W4 hz0;have hll:=Et (x:=x) (l:=(nth p.routes k).visits);have hsqi:=(XB hsq);refine XZ [2,6,13,19,20,21] (fun _:Unit=> []) (fun _=> [Zk x,Xw p,.elems 10 ((Ww x p.routes k).map Ed),B5 (nth p.routes k),Qv (ZP x (nth p.routes k)),B6 (Jo x (nth p.routes k)),B7 (nth p.routes k) (ZP x (nth p.routes k)) 7 (nth p.routes k).visits.length,.elems 9 ((Xo x k (nth p.routes k) (nth p.routes k).visits.length).map Xu)]) (fun _=>True) ?_ ?_
    ·simp (disch:=omega) only [List.set_cons_succ,List.set_cons_zero,List.cons_append,List.nil_append,List.length_cons,List.length_nil,go_sem,seval];refine Zn [2,6,7,9,12,13,19,20,21,49,50] (fun q:Nat=> [(51,.p (.int .i64 q))]) (fun q=> [Zk x,Xw p,.elems 10 ((Ww x p.routes k).map Ed),B5 (nth p.routes k),Qv (ZP x (nth p.routes k)),B6 (Jo x (nth p.routes k)),B7 (nth p.routes k) (ZP x (nth p.routes k)) 7 q,.elems 9 ((Xo x k (nth p.routes k) q).map Xu)]) (fun q=>q<=(nth p.routes k).visits.length) (fun q=>(nth p.routes k).visits.length-q) 0 Zb (Weak.mk ?_) ?_
     ·simp (disch:=omega) only [Zk,Xw,B5,Qv,B6,B7,Xo,List.range_zero,List.map_nil,go_sem,seval]
     ·intro q hq;simp (disch:=omega) only [Zk,Xw,B5,Qv,B6,B7,go_sem,seval];refine cD ?_ ?_<;>intro h3<;>simp (disch:=omega) only [Sh.out h3,go_sem,seval]
      ·have hq2:q<(nth p.routes k).visits.length:=Za
       have hvis:=hsqi.vis (Zq hq2);simp only [EX,Bool.and_eq_true,decide_eq_true_eq] at hvis;have hms:=UF (x:=x) (i:=k) (r:=nth p.routes k) (k:=q);have hmr:Wv x k (nth p.routes k) q=⟨k,nth (nth p.routes k).visits q,(stopV x (nth (nth p.routes k).visits q)).place,nth (ZP x (nth p.routes k)).times q,false,nth (WR x (nth p.routes k).visits) (q+1)⟩:=rfl;refine ZZ (Kx x (nth (nth p.routes k).visits q) Za hvis.1 hvis.2) ?_;simp (disch:=omega) only [go_sem,seval];refine XC 18 mixed Zg Zg ?_;simp (disch:=omega) only [go_sem,seval]
       rw [if_pos ⟨Z0,Za,Za⟩];simp (disch:=omega) only [Z0,decide_true,eq_self,go_sem,seval];refine ⟨q+1,Za,Za,Weak.mk ?_⟩;simp (disch:=omega) only [Zk,Xw,B5,Qv,B6,B7,hms,hmr,List.map_append,List.map_cons,List.map_nil,go_sem,seval]
      ·have hql:q=(nth p.routes k).visits.length:=Za
       subst hql;exact ⟨(),Weak.mk (by simp (disch:=omega) only [Zk,Xw,B5,Qv,B6,B7,go_sem,seval])⟩
    ·intro _ _;have hts:=CH (x:=x) (l:=p.routes) (k:=k);have htl2:=XX (x:=x) (l:=p.routes) (k:=k);refine Zp (Weak.fz (o:=7) (by rfl)) ?_;refine Zd [] _ _ _ _ ?_;simp (disch:=omega) only [List.map_cons,List.map_nil,List.set_cons_succ,List.set_cons_zero,Zk,Xw,B5,Qv,B6,B7,Z0,eq_self,go_sem,seval];rw [if_pos ⟨htl2,Za,Za⟩];simp (disch:=omega) only [htl2,go_sem,seval];refine ⟨k+1,⟨Za,fun j hj=> ?_⟩,Za,Weak.mk ?_⟩
     ·rcases Nat.lt_or_ge j k with h | h
      ·exact hz j h
      ·have:j=k:=Za
       subst this;exact hz0
     ·simp (disch:=omega) only [Zk,Xw,hts,WB,List.map_append,List.map_cons,List.map_nil,go_sem,seval]
  ·have hkl:k=p.routes.length:=Za
   subst hkl;have h0:YG x p.routes=0:=C9 hz;rw [if_pos h0];refine Zp (Weak.fz (o:=2) (by rfl)) ?_;refine Zd [] _ _ _ _ ?_;simp (disch:=omega) only [List.map_cons,List.map_nil,List.set_cons_succ,List.set_cons_zero,Zk,Xw,XX,eq_self,go_sem,seval];exact we
def Pn (x:Inst) (p:Pln):V:=if YG x p.routes=0 then .tup [.p (.list false ((YB x p.routes p.routes.length).map Xu)),.p (.int .i64 0)] else .tup [.p (.list true []),.p (.int .i64 (YG x p.routes))]
theorem AA {x:Inst} {l:List Rte} {k B:Nat} (hb: ∀i,i<k->(nth l i).visits.length<=B):(YB x l k).length<=B*k:=by
 induction k with
 | zero=>simp [YB]
 | succ k ih =>
  rw [Ul,List.length_append,Z0];have:=ih fun i hi=>hb i Za;have:=hb k Za;rw [Nat.mul_succ];omega
theorem KJ {x:Inst} {l:List Rte} {n k:Nat} (h:k<n):nth (Ww x l n) k=WB x k (nth l k):=by
 rw [Zh (by rw [XX];exact h)];simp [Ww]
theorem IY (x:Inst) (p:Pln) (hx:InstOk x) (hr:p.routes.length<=1048576) (hb: ∀r∈p.routes,Hj r) :
  ACalls Tryz.prog 28 [.p (XQ x),.p (Eb p)] [] fun y H'=>y=Pn x p/\H'= []:=by
 refine Ze [5,10] Tryz.func28 rfl bY ?_;have ct:=Wn x p hx hr hb;unfold Pn
 by_cases h0:YG x p.routes=0
 ·simp only [if_pos h0] at ct ⊢;simp (disch:=omega) only [Tryz.f28,go_sem,seval];refine ZZ ct ?_;simp (disch:=omega) only [go_sem,seval];refine Zp (Weak.nil 8 9 (by rfl) Zb) ?_;refine Zd [10] _ _ _ _ ?_;simp (disch:=omega) only [List.set_cons_succ,List.set_cons_zero,List.cons_append,List.nil_append,List.length_cons,List.length_nil,XX,go_sem,seval];have hl:=XX (x:=x) (l:=p.routes) (k:=p.routes.length);refine Zn [20,21] (fun k:Nat=> [(8,.sl 2 0 (YB x p.routes k).length (YB x p.routes k).length),(22,.p (.int .i64 k))]) (fun k=> [Zk x,Xw p,.elems 9 ((YB x p.routes k).map Xu)]) (fun k=>k<=p.routes.length) (fun k=>p.routes.length-k) 0 Zb (Weak.mk ?_) ?_
  ·simp (disch:=omega) only [Zk,Xw,YB,List.range_zero,List.map_nil,List.flatten_nil,List.length_nil,go_sem,seval]
  ·intro k hk;simp (disch:=omega) only [Zk,Xw,go_sem,seval];refine cD ?_ ?_<;>intro h1<;>simp (disch:=omega) only [Sh.out h1,go_sem,seval]
   ·have hk2:k<p.routes.length:=Za
    have hat:=KJ (x:=x) (l:=p.routes) hk2;have hms:=Ul (x:=x) (l:=p.routes) (k:=k);have hml:(YB x p.routes k).length<=1048576*k:=AA fun i hi=>(hb _ (Zq Za)).1;have hrl:=Z0 (x:=x) (i:=k) (r:=nth p.routes k) (k:=(nth p.routes k).visits.length);have hvl:=(hb _ (Zq hk2)).1;simp (disch:=omega) only [hat,WB,go_sem,seval];rw [if_pos ⟨by rw [hrl];omega,by rw [hrl];omega⟩];simp (disch:=omega) only [go_sem,seval];refine ⟨k+1,Za,Za,Weak.mk ?_⟩;simp (disch:=omega) only [Zk,Xw,hms,List.map_append,List.length_append,go_sem,seval]
   ·have hkl:k=p.routes.length:=Za
    subst hkl;refine Zp (Weak.fz (o:=2) (by rfl)) ?_;refine Zd [] _ _ _ _ ?_;simp (disch:=omega) only [List.map_cons,List.map_nil,List.set_cons_succ,List.set_cons_zero,Zk,Xw,List.length_map,eq_self,go_sem,seval];exact we
 ·simp only [if_neg h0] at ct ⊢;simp (disch:=omega) only [Tryz.f28,go_sem,seval];refine ZZ ct ?_;simp (disch:=omega) only [go_sem,seval];refine cD ?_ ?_<;>intro h1<;>simp (disch:=omega) only [Sh.out h1,go_sem,seval]
  ·exact we
  ·omega
def Qw (x:Inst) (l:List Rte) (k q:Nat):List Row:=YB x l k++Xo x k (nth l k) q
theorem Ew {x l k} :Qw x l k 0=YB x l k:=by simp [Qw,Xo]
theorem GA {x l k} :Qw x l k (nth l k).visits.length=YB x l (k+1):=by rw [Ul];rfl
theorem Ev {x l k q} :Qw x l k (q+1)=Qw x l k q++ [Wv x k (nth l k) q]:=by rw [Qw,UF,<- List.append_assoc];rfl
theorem GB {x l k q} :(Qw x l k q).length=(YB x l k).length+q:=by rw [Qw,List.length_append,Z0]
def Jj (now:Int) (fin:Int):Int->List Tim->Bool
 | d,[]=>decide (d<=now)&&decide (now<fin)
 | d,t::l=>(decide (d<=now)&&decide (now<t.arr))||Jj now fin t.dep l
def U8 (s:She) (now:Int):Bool:=Jj now s.fin s.dep s.times
def UG (t:Tim):Bool:=t.rest
def JP (s:She):Int:=(if s.rest=true then 1 else 0)+(s.times.countP UG:Nat)
theorem Fz {now fin d:Int} {l:List Tim} {k:Nat} (hk:k<l.length):Jj now fin d (l.drop k)=((decide (d<=now)&&decide (now<(nth l k).arr))||Jj now fin (nth l k).dep (l.drop (k+1))):=by
 rw [List.drop_eq_getElem_cons hk,Zh hk];rfl
theorem JJ {s:She} {k:Nat} :pdep s (k+1)=(nth s.times k).dep:=rfl
def QW (t:Ttb):AM.Obj:= .cells [.p (.int .i64 t.rte.typ),.p (.int .i64 t.rte.start),.p (.list t.rte.rests_c (t.rte.rests.map eB)),.p (.list t.rte.visits_c (t.rte.visits.map Xb)),.p (.bool t.she.rest),.p (.int .i64 t.she.dep),.p (.list t.she.times_c (t.she.times.map eTim)),.p (.int .i64 t.she.fin),.p (.int .i64 t.she.miles),.p (.list t.rows_c (t.rows.map Xu))]
theorem Nv (t:Ttb) (now:Int) (hl:t.rows.length<=1048576) (hn:t.rows.length=t.she.times.length) (ht: ∀k,k<t.rows.length->(nth t.rows k).tm=nth t.she.times k) :
  PC 74 [.p (Ed t),.p (.int .i64 now)] (.bool (U8 t.she now)):=by
 refine Zc Tryz.func74 rfl cQ ?_;simp (disch:=omega) only [Tryz.f74,go_sem,seval];refine Zn [1,2,12,13] (fun k:Nat=> [(5,.p (.int .i64 (pdep t.she k))),(14,.p (.int .i64 k))]) (fun _=> [QW t]) (fun k=>k<=t.rows.length/\U8 t.she now=Jj now t.she.fin (pdep t.she k) (t.she.times.drop k)) (fun k=>t.rows.length-k) 0 ⟨Za,rfl⟩ (Weak.mk ?_) ?_
 ·simp (disch:=omega) only [QW,pdep,go_sem,seval]
 ·rintro k ⟨hk,ha⟩;simp (disch:=omega) only [QW,go_sem,seval];refine cD ?_ ?_<;>intro h1<;>simp (disch:=omega) only [Sh.out h1,go_sem,seval]
  ·have hk2:k<t.rows.length:=Za
   have htk:=ht k hk2;rw [Fz Za] at ha;refine gT ?_ ?_<;>intro h2<;>simp (disch:=omega) only [Sh.out h2,go_sem,seval]
   ·simp (disch:=omega) only [htk,go_sem,seval];refine cD ?_ ?_<;>intro h3<;>simp (disch:=omega) only [Sh.out h3,go_sem,seval]
    ·rw [ha];simp [h2,h3]
    ·exact ⟨k+1,⟨Za,by rw [ha];simp [h3];rfl⟩,Za,Weak.mk (by simp (disch:=omega) only [QW,htk,JJ,go_sem,seval])⟩
   ·refine ⟨k+1,⟨Za,by rw [ha];simp [h2];rfl⟩,Za,Weak.mk (by simp (disch:=omega) only [QW,htk,JJ,go_sem,seval])⟩
  ·have hkl:k=t.she.times.length:=Za
   subst hkl;rw [List.drop_length,Jj] at ha;rw [ha];refine gT ?_ ?_<;>intro h4<;>simp (disch:=omega) only [Sh.out h4,go_sem,seval]
theorem Ac {l:List Tim} {k:Nat} (h:k<l.length):(((l.take (k+1)).countP UG:Nat):Int)=((l.take k).countP UG:Nat)+(if (nth l k).rest=true then 1 else 0):=by
 rw [List.take_succ_eq_append_getElem h,List.countP_append,<- Zh h]
 by_cases e:(nth l k).rest=true
 ·simp [UG,e]
 ·simp [UG,e]
theorem Ea {l:List Tim} {k:Nat} :(l.take k).countP UG<=k:=Nat.le_trans (List.countP_le_length) (by simp;omega)
theorem Gz (s:She) (hl:s.times.length<=1048576):PC 75 [.p (BR s)] (.int .i64 (JP s)):=by
 refine Zc Tryz.func75 rfl cS ?_;simp (disch:=omega) only [Tryz.f75,go_sem,seval];unfold JP;generalize hb:s.rest=b
 cases b
 all_goals
  simp (disch:=omega) only [go_sem,seval];refine Zn [11,12] (fun k:Nat=> [(3,.p (.int .i64 ((if s.rest=true then 1 else 0)+((s.times.take k).countP UG:Nat)))),(13,.p (.int .i64 k))]) (fun _=> [Qv s]) (fun k=>k<=s.times.length) (fun k=>s.times.length-k) 0 Zb (Weak.mk ?_) ?_
  ·simp (disch:=omega) only [Qv,List.take_zero,List.countP_nil,hb,go_sem,seval]
  ·intro k hk;simp (disch:=omega) only [Qv,hb,go_sem,seval];refine cD ?_ ?_<;>intro h1<;>simp (disch:=omega) only [Sh.out h1,go_sem,seval]
   ·have hk2:k<s.times.length:=Za
    have hc:=Ac hk2;have hcl:=Ea (l:=s.times) (k:=k)
    generalize he:(nth s.times k).rest=r at *
    cases r
    all_goals
     simp (disch:=omega) only [go_sem,seval];refine ⟨k+1,Za,Za,Weak.mk ?_⟩;simp (disch:=omega) only [Qv,hb,hc,go_sem,seval];exact congrArg (PV.int .i64) Za
   ·have hkl:k=s.times.length:=Za
    subst hkl;rw [List.take_length]
def Ja (x:Inst) (l:List Rte):Nat->Int
 | 0=>0
 | k+1=>Ja x l k+(ZP x (nth l k)).miles
def Jg (x:Inst) (l:List Rte):Nat->Int
 | 0=>0
 | k+1=>Jg x l k+((ZP x (nth l k)).fin-(ZM x (nth l k)).opn)
def Jd (x:Inst) (l:List Rte):Nat->Int
 | 0=>0
 | k+1=>Jd x l k+JP (ZP x (nth l k))
def P7 (x:Inst) (p:Pln):V:=if YG x p.routes=0 then .tup [.p (.int .i64 (Ja x p.routes p.routes.length)),.p (.int .i64 (Jg x p.routes p.routes.length)),.p (.int .i64 (Jd x p.routes p.routes.length)),.p (.int .i64 0)] else .tup [.p (.int .i64 0),.p (.int .i64 0),.p (.int .i64 0),.p (.int .i64 (YG x p.routes))]
theorem DH {x:Inst} {r:Rte} (hx:InstOk x) (h:ZD x r=0):(0<=r.typ/\r.typ<(x.types.length:Int))/\0<=(ZM x r).opn/\(ZM x r).opn<=4096:=by
 obtain ⟨hty,h0,hs⟩:=Ys (XK h);have:=(Y9 hx hty (XB h0)).opn;exact ⟨hty,Za,Za⟩
theorem JQ {s:She} (h:s.times.length<=1048576):0<=JP s/\JP s<=1048577:=by
 have:=List.countP_le_length (p:=UG) (l:=s.times);unfold JP
 split<;>omega
theorem LX {x:Inst} {l:List Rte} {k:Nat} (hx:InstOk x) (hz: ∀j,j<k->ZD x (nth l j)=0) (hv: ∀j,j<k->(nth l j).visits.length<=1048576) :
  (0<=Ja x l k/\Ja x l k<=210000*k)/\(-(4096*(k:Int))<=Jg x l k/\Jg x l k<=8192*k)/\(0<=Jd x l k/\Jd x l k<=1048577*k):=by
 induction k with
 | zero=>simp [Ja,Jg,Jd]
 | succ k ih =>
  obtain ⟨i1,i2,i3⟩:=ih (fun j hj=>hz j Za) (fun j hj=>hv j Za);have h1:=Ai hx (hz k Za);have h2:=DH hx (hz k Za);have h3:=JQ (s:=ZP x (nth l k)) (by rw [W4 (hz k Za)];exact hv k Za);simp only [Ja,Jg,Jd];omega
theorem Eu (x:Inst) (p:Pln) (hx:InstOk x) (hr:p.routes.length<=1048576) (hb: ∀r∈p.routes,Hj r) :
  ACalls Tryz.prog 30 [.p (XQ x),.p (Eb p)] [] fun y H'=>y=P7 x p/\H'= []:=by
 refine Ze [] Tryz.func30 rfl cC ?_;have ct:=Wn x p hx hr hb;unfold P7
 by_cases h0:YG x p.routes=0
 ·simp only [if_pos h0] at ct ⊢;have hz: ∀j,j<p.routes.length->ZD x (nth p.routes j)=0:=fun j hj=>Ag.1 h0 _ (Zq hj);simp (disch:=omega) only [Tryz.f30,go_sem,seval];refine ZZ ct ?_;have hl:=XX (x:=x) (l:=p.routes) (k:=p.routes.length);simp (disch:=omega) only [hl,go_sem,seval];refine Zn [2,24,25] (fun k:Nat=> [(10,.p (.int .i64 (Ja x p.routes k))),(11,.p (.int .i64 (Jg x p.routes k))),(12,.p (.int .i64 (Jd x p.routes k))),(26,.p (.int .i64 k))]) (fun k=> [Zk x,Xw p]) (fun k=>k<=p.routes.length) (fun k=>p.routes.length-k) 0 Zb (Weak.mk ?_) ?_
  ·simp (disch:=omega) only [Zk,Xw,Ja,Jg,Jd,go_sem,seval]
  ·intro k hk;simp (disch:=omega) only [Zk,Xw,go_sem,seval];refine cD ?_ ?_<;>intro h1<;>simp (disch:=omega) only [Sh.out h1,go_sem,seval]
   ·have hk2:k<p.routes.length:=Za
    have hat:=KJ (x:=x) (l:=p.routes) hk2;obtain ⟨r1,r2,r3⟩:=LX (l:=p.routes) (k:=k) hx (fun j hj=>hz j Za) (fun j hj=>(hb _ (Zq Za)).1);have h4:=Ai hx (hz k hk2);have h5:=DH hx (hz k hk2);have hlen:=W4 (hz k hk2);have hvl:=(hb _ (Zq hk2)).1;have h6:=JQ (s:=ZP x (nth p.routes k)) Za;have hty:(ZM x (nth p.routes k))=nth x.types (nth p.routes k).typ.toNat:=rfl;rw [hty] at h5;simp (disch:=omega) only [hat,WB,go_sem,seval];refine XC 13 mixed Zg Zg ?_;simp (disch:=omega) only [go_sem,seval]
    refine (Gz (ZP x (nth p.routes k)) Za).use ?_;simp (disch:=omega) only [go_sem,seval];refine ⟨k+1,Za,Za,Weak.mk ?_⟩;simp (disch:=omega) only [Zk,Xw,Ja,Jg,Jd,hty,go_sem,seval]
   ·have hkl:k=p.routes.length:=Za
    subst hkl;exact we
 ·simp only [if_neg h0] at ct ⊢;simp (disch:=omega) only [Tryz.f30,go_sem,seval];refine ZZ ct ?_;simp (disch:=omega) only [go_sem,seval];refine cD ?_ ?_<;>intro h1<;>simp (disch:=omega) only [Sh.out h1,go_sem,seval]
  ·exact we
  ·omega
end Go.Proofs.YtmbelkfkhclnkaaGreatDoor.K
