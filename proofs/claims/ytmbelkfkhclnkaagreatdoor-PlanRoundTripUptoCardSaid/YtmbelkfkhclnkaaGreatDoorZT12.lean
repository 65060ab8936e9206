/- Declarations that the closing texts need, part 12: joined by tools/slim.py. -/
import Derived.Test.YtmbelkfkhclnkaaGreatDoorZT11
import Derived.Test.YtmbelkfkhclnkaaGreatDoorRows
set_option linter.unusedVariables false
set_option linter.unusedSimpArgs false
namespace Go.Proofs.YtmbelkfkhclnkaaGreatDoor.K
open Go Go.AM Go.Proofs
theorem T9 : Tryz.prog.cellsOf 3=1:=Zg
theorem kS : Tryz.prog.cellsOf 4=1:=Zg
theorem T7 : Tryz.prog.cellsOf 26=2:=Zg
theorem Mx : BD Tryz.prog 26=some [(0,3),(1,4)]:=Zg
theorem T8 : Tryz.prog.cellsOf 29=1:=Zg
theorem aA : Tryz.prog.cellsOf 44=1:=Zg
theorem aB : Tryz.prog.cellsOf 46=2:=Zg
theorem My : BD Tryz.prog 46=some [(0,44),(1,29)]:=Zg
theorem aC : Tryz.prog.cellsOf 91=1:=Zg
theorem aD : Tryz.prog.cellsOf 92=1:=Zg
theorem aE : Tryz.prog.cellsOf 94=4:=Zg
theorem Mz : BD Tryz.prog 94=some [(0,3),(1,3),(2,91),(3,92)]:=Zg
mutual
theorem BW {H:Type} :(d:DataW H)->Jc d<=Rows.uptoBulk d
 | .lit l=>by cases l<;>simp [Jc,Rows.uptoBulk]
 | .nil=>by simp [Jc,Rows.uptoBulk]
 | .ptr d=>by have:=BW d;simp only [Jc,Rows.uptoBulk];omega
 | .slice es sp=>by have:=VI es;have:=VI sp;simp only [Jc,Rows.uptoBulk];omega
 | .agg ps=>by have:=VI ps;simp only [Jc,Rows.uptoBulk];omega
 | .iface _ d=>by have:=BW d;simp only [Jc,Rows.uptoBulk];omega
 | .map es=>by simp only [Jc,Rows.uptoBulk];omega
 | .held h=>by simp [Jc,Rows.uptoBulk]
theorem VI {H:Type} :(l:List (DataW H))->WB l<=Rows.uptoBulkAll l
 | []=>by simp [WB,Rows.uptoBulkAll]
 | d::r=>by have:=BW d;have:=VI r;simp only [WB,Rows.uptoBulkAll];omega
end
theorem CD {H:Type} {l:List (DataW H)} (h:Rows.uptoSmall H l=true):WB l<=1048576:=by
 have h1:=VI l;have h2:Rows.uptoBulkAll l<=1048576:=of_decide_eq_true h;omega
abbrev EW (n:Int):Prop:= -9223372036854775808<=n/\n<=9223372036854775807
def eI (n:Int):PV:= .int .i64 n
def eB (b:Bool):PV:= .bool b
def eS (s:List UInt8):PV:= .str s
def eP (p:Int×Int):PV:= .agg [.int .i64 p.1,.int .i64 p.2]
@[go_sem] theorem pD (n:Int):eI n= .int .i64 n:=Eq.trans rfl rfl
@[go_sem] theorem pC (b:Bool):eB b= .bool b:=Eq.trans rfl rfl
@[go_sem] theorem pF (s:List UInt8):eS s= .str s:=Eq.trans rfl rfl
@[go_sem] theorem pE (p:Int×Int):eP p= .agg [.int .i64 p.1,.int .i64 p.2]:=Eq.trans rfl rfl
@[go_sem] theorem gB (l:List Bool):Qi 1 (l.map eB)=true:=VD (f:=eB) (S:=1) (fun _=>rfl) l
theorem F4 {B xs} (h: ∀y∈xs,FitV Tryz.prog B 3 y): ∃l:List Int,xs=l.map eI/\ ∀n∈l,EW n :=
 VY (f:=eI) fun y hy=>by
  obtain ⟨n,rfl,w⟩:=IR Tryz.underlying3 (h y hy);exact ⟨n,rfl,Kx w⟩
theorem En {B xs} (h: ∀y∈xs,FitV Tryz.prog B 4 y): ∃l:List Bool,xs=l.map eB/\ ∀b∈l,True :=
 VY (f:=eB) fun y hy=>by
  obtain ⟨b,rfl⟩:=F3 Tryz.underlying4 (h y hy);exact ⟨b,rfl,trivial⟩
theorem cT {α:Type} {l:List α} (h:l.length=2): ∃a0 a1,l= [a0,a1]:=by
 match l,h with | [a0,a1],_=>simp
theorem lQ {α:Type} {l:List α} (h:l.length=4): ∃a0 a1 a2 a3,l= [a0,a1,a2,a3]:=by
 match l,h with | [a0,a1,a2,a3],_=>simp
structure Pt where
 t:Int
 a:Int
 deriving Inhabited
def Ej (x:Pt):PV:= .agg [.int .i64 x.t,.int .i64 x.a]
@[go_sem] theorem kT (x:Pt):Ej x= .agg [.int .i64 x.t,.int .i64 x.a]:=Eq.trans rfl rfl
structure Arc where
 src:Int
 dst:Int
 prof:Int
 miles:Int
 travel_c:Bool
 travel:List (Pt)
 slow_c:Bool
 slow:List (Pt)
 deriving Inhabited
def VJ (x:Arc):PV:= .agg [.int .i64 x.src,.int .i64 x.dst,.int .i64 x.prof,.int .i64 x.miles,.list x.travel_c (x.travel.map Ej),.list x.slow_c (x.slow.map Ej)]
@[go_sem] theorem gM (x:Arc):VJ x= .agg [.int .i64 x.src,.int .i64 x.dst,.int .i64 x.prof,.int .i64 x.miles,.list x.travel_c (x.travel.map Ej),.list x.slow_c (x.slow.map Ej)]:=Eq.trans rfl rfl
structure Net where
 places_c:Bool
 places:List (List UInt8)
 arcs_c:Bool
 arcs:List (Arc)
 deriving Inhabited
def IG (x:Net):PV:= .agg [.list x.places_c (x.places.map eS),.list x.arcs_c (x.arcs.map VJ)]
@[go_sem] theorem gO (x:Net):IG x= .agg [.list x.places_c (x.places.map eS),.list x.arcs_c (x.arcs.map VJ)]:=Eq.trans rfl rfl
structure Typ where
 name:List UInt8
 count:Int
 src:Int
 dst:Int
 cap_c:Bool
 cap:List (Int)
 skills:Int
 prof:Int
 opn:Int
 cls:Int
 drive:Int
 rest:Int
 fixed:Int
 perMile:Int
 perTick:Int
 deriving Inhabited
def Jj (x:Typ):PV:= .agg [.str x.name,.int .i64 x.count,.int .i64 x.src,.int .i64 x.dst,.list x.cap_c (x.cap.map eI),.int .i64 x.skills,.int .i64 x.prof,.int .i64 x.opn,.int .i64 x.cls,.int .i64 x.drive,.int .i64 x.rest,.int .i64 x.fixed,.int .i64 x.perMile,.int .i64 x.perTick]
@[go_sem] theorem gY (x:Typ):Jj x= .agg [.str x.name,.int .i64 x.count,.int .i64 x.src,.int .i64 x.dst,.list x.cap_c (x.cap.map eI),.int .i64 x.skills,.int .i64 x.prof,.int .i64 x.opn,.int .i64 x.cls,.int .i64 x.drive,.int .i64 x.rest,.int .i64 x.fixed,.int .i64 x.perMile,.int .i64 x.perTick]:=Eq.trans rfl rfl
structure Stp where
 place:Int
 opn:Int
 cls:Int
 serv:Int
 deriving Inhabited
def BX (x:Stp):PV:= .agg [.int .i64 x.place,.int .i64 x.opn,.int .i64 x.cls,.int .i64 x.serv]
@[go_sem] theorem gV (x:Stp):BX x= .agg [.int .i64 x.place,.int .i64 x.opn,.int .i64 x.cls,.int .i64 x.serv]:=Eq.trans rfl rfl
structure Ord where
 name:List UInt8
 load_c:Bool
 load:List (Int)
 pick:Stp
 drp:Stp
 skills:Int
 penalty:Int
 split:Int
 last:Int
 now:Int
 off:Bool
 deriving Inhabited
def Wr (x:Ord):PV:= .agg [.str x.name,.list x.load_c (x.load.map eI),.int .i64 x.pick.place,.int .i64 x.pick.opn,.int .i64 x.pick.cls,.int .i64 x.pick.serv,.int .i64 x.drp.place,.int .i64 x.drp.opn,.int .i64 x.drp.cls,.int .i64 x.drp.serv,.int .i64 x.skills,.int .i64 x.penalty,.int .i64 x.split,.int .i64 x.last,.int .i64 x.now,.bool x.off]
@[go_sem] theorem gP (x:Ord):Wr x= .agg [.str x.name,.list x.load_c (x.load.map eI),.int .i64 x.pick.place,.int .i64 x.pick.opn,.int .i64 x.pick.cls,.int .i64 x.pick.serv,.int .i64 x.drp.place,.int .i64 x.drp.opn,.int .i64 x.drp.cls,.int .i64 x.drp.serv,.int .i64 x.skills,.int .i64 x.penalty,.int .i64 x.split,.int .i64 x.last,.int .i64 x.now,.bool x.off]:=Eq.trans rfl rfl
structure Inst where
 net:Net
 types_c:Bool
 types:List (Typ)
 orders_c:Bool
 orders:List (Ord)
 apart_c:Bool
 apart:List (Int×Int)
 before_c:Bool
 before:List (Int×Int)
 deriving Inhabited
def XW (x:Inst):PV:= .agg [.list x.net.places_c (x.net.places.map eS),.list x.net.arcs_c (x.net.arcs.map VJ),.list x.types_c (x.types.map Jj),.list x.orders_c (x.orders.map Wr),.list x.apart_c (x.apart.map eP),.list x.before_c (x.before.map eP)]
@[go_sem] theorem aH (x:Inst):XW x= .agg [.list x.net.places_c (x.net.places.map eS),.list x.net.arcs_c (x.net.arcs.map VJ),.list x.types_c (x.types.map Jj),.list x.orders_c (x.orders.map Wr),.list x.apart_c (x.apart.map eP),.list x.before_c (x.before.map eP)]:=Eq.trans rfl rfl
structure Vis where
 order:Int
 drp:Bool
 deriving Inhabited
def kR (x:Vis):List PV:= [.int .i64 x.order,.bool x.drp]
def ZW (x:Vis):PV:= .agg [.int .i64 x.order,.bool x.drp]
@[go_sem] theorem IJ (x:Vis):ZW x= .agg [.int .i64 x.order,.bool x.drp]:=Eq.trans rfl rfl
@[go_sem] theorem Rp (l:List Vis):Qi 2 (l.map ZW)=true:=VD (f:=ZW) (S:=2) (fun _=>rfl) l
def Vis.wf (B:Nat) (x:Vis):Prop:=EW x.order
theorem F7 {B m cs} (h:XJ Tryz.prog B m 26 cs): ∃x:Vis,cs=kR x/\x.wf B:=by
 obtain ⟨h1,m',h2⟩:=Qy Mx T7 h;obtain ⟨a0,a1,rfl⟩:=cT h1;obtain ⟨n0,e0,w0⟩:=VK Tryz.underlying3 (h2 (0,3) Zb);obtain ⟨n1,e1⟩:=JA Tryz.underlying4 (h2 (1,4) Zb);simp [kS,T9] at e0 e1;subst e0;subst e1;exact ⟨⟨n0,n1⟩,rfl,Kx w0⟩
theorem IQ {B v} (h:FitV Tryz.prog B 26 v): ∃x:Vis,v=ZW x/\x.wf B:=by
 obtain ⟨k,cs,h,e⟩:=h.out;obtain ⟨x,rfl,hw⟩:=F7 h;exact ⟨x,e.trans (by rw [Vc,if_pos (WO Mx)];rfl),hw⟩
structure Rte where
 typ:Int
 start:Int
 rests_c:Bool
 rests:List (Bool)
 visits_c:Bool
 visits:List (Vis)
 deriving Inhabited
def kQ (x:Rte):List PV:= [.int .i64 x.typ,.int .i64 x.start,.list x.rests_c (x.rests.map eB),.list x.visits_c (x.visits.map ZW)]
def XS (x:Rte):PV:= .agg [.int .i64 x.typ,.int .i64 x.start,.list x.rests_c (x.rests.map eB),.list x.visits_c (x.visits.map ZW)]
@[go_sem] theorem gR (x:Rte):XS x= .agg [.int .i64 x.typ,.int .i64 x.start,.list x.rests_c (x.rests.map eB),.list x.visits_c (x.visits.map ZW)]:=Eq.trans rfl rfl
def Rte.wf (B:Nat) (x:Rte):Prop:=EW x.typ/\EW x.start/\x.rests.length<=B/\(∀b∈x.rests,True)/\x.visits.length<=B/\(∀y∈x.visits,Vis.wf B y)
theorem F6 {B m cs} (h:XJ Tryz.prog B m 94 cs): ∃x:Rte,cs=kQ x/\x.wf B:=by
 obtain ⟨h1,m',h2⟩:=Qy Mz aE h;obtain ⟨a0,a1,a2,a3,rfl⟩:=lQ h1;obtain ⟨n0,e0,w0⟩:=VK Tryz.underlying3 (h2 (0,3) Zb);obtain ⟨n1,e1,w1⟩:=VK Tryz.underlying3 (h2 (1,3) Zb);obtain ⟨y2,e2,w2,_,z2⟩:=Y9 Tryz.underlying91 (h2 (2,91) Zb);obtain ⟨n2,rfl,u2⟩:=En z2;obtain ⟨y3,e3,w3,_,z3⟩:=Y9 Tryz.underlying92 (h2 (3,92) Zb);obtain ⟨n3,rfl,u3⟩:=VY (f:=ZW) fun y hy=>IQ (z3 y hy);simp [aD,aC,T9] at e0 e1 e2 e3;subst e0;subst e1;subst e2;subst e3;exact ⟨⟨n0,n1,false,n2,false,n3⟩,rfl,Kx w0,Kx w1,by grind,u2,by grind,u3⟩
theorem IP {B v} (h:FitV Tryz.prog B 94 v): ∃x:Rte,v=XS x/\x.wf B:=by
 obtain ⟨k,cs,h,e⟩:=h.out;obtain ⟨x,rfl,hw⟩:=F6 h;exact ⟨x,e.trans (by rw [Vc,if_pos (WO Mz)];rfl),hw⟩
structure Tim where
 arr:Int
 beg:Int
 dep:Int
 rest:Bool
 deriving Inhabited
def eTim (x:Tim):PV:= .agg [.int .i64 x.arr,.int .i64 x.beg,.int .i64 x.dep,.bool x.rest]
@[go_sem] theorem gW (x:Tim):eTim x= .agg [.int .i64 x.arr,.int .i64 x.beg,.int .i64 x.dep,.bool x.rest]:=Eq.trans rfl rfl
@[go_sem] theorem dE (l:List Tim):Jl 4 (l.map eTim)=true:=Le fun _=>rfl
structure She where
 rest:Bool
 dep:Int
 times_c:Bool
 times:List (Tim)
 fin:Int
 miles:Int
 deriving Inhabited
def Ek (x:She):PV:= .agg [.bool x.rest,.int .i64 x.dep,.list x.times_c (x.times.map eTim),.int .i64 x.fin,.int .i64 x.miles]
@[go_sem] theorem gU (x:She):Ek x= .agg [.bool x.rest,.int .i64 x.dep,.list x.times_c (x.times.map eTim),.int .i64 x.fin,.int .i64 x.miles]:=Eq.trans rfl rfl
structure Sco where
 cost:Int
 moved:Int
 other:Int
 work:Int
 deriving Inhabited
def II (x:Sco):PV:= .agg [.int .i64 x.cost,.int .i64 x.moved,.int .i64 x.other,.int .i64 x.work]
@[go_sem] theorem gS (x:Sco):II x= .agg [.int .i64 x.cost,.int .i64 x.moved,.int .i64 x.other,.int .i64 x.work]:=Eq.trans rfl rfl
structure Pln where
 routes_c:Bool
 routes:List (Rte)
 unserved_c:Bool
 unserved:List (Int)
 deriving Inhabited
def kP (x:Pln):List PV:= [.list x.routes_c (x.routes.map XS),.list x.unserved_c (x.unserved.map eI)]
def Va (x:Pln):PV:= .agg [.list x.routes_c (x.routes.map XS),.list x.unserved_c (x.unserved.map eI)]
@[go_sem] theorem gQ (x:Pln):Va x= .agg [.list x.routes_c (x.routes.map XS),.list x.unserved_c (x.unserved.map eI)]:=Eq.trans rfl rfl
def Pln.wf (B:Nat) (x:Pln):Prop:=x.routes.length<=B/\(∀y∈x.routes,Rte.wf B y)/\x.unserved.length<=B/\(∀n∈x.unserved,EW n)
theorem F5 {B m cs} (h:XJ Tryz.prog B m 46 cs): ∃x:Pln,cs=kP x/\x.wf B:=by
 obtain ⟨h1,m',h2⟩:=Qy My aB h;obtain ⟨a0,a1,rfl⟩:=cT h1;obtain ⟨y0,e0,w0,_,z0⟩:=Y9 Tryz.underlying44 (h2 (0,44) Zb);obtain ⟨n0,rfl,u0⟩:=VY (f:=XS) fun y hy=>IP (z0 y hy);obtain ⟨y1,e1,w1,_,z1⟩:=Y9 Tryz.underlying29 (h2 (1,29) Zb);obtain ⟨n1,rfl,u1⟩:=F4 z1;simp [aA,T8] at e0 e1;subst e0;subst e1;exact ⟨⟨false,n0,false,n1⟩,rfl,by grind,u0,by grind,u1⟩
theorem IN {B v} (h:FitV Tryz.prog B 46 v): ∃x:Pln,v=Va x/\x.wf B:=by
 obtain ⟨k,cs,h,e⟩:=h.out;obtain ⟨x,rfl,hw⟩:=F5 h;exact ⟨x,e.trans (by rw [Vc,if_pos (WO My)];rfl),hw⟩
theorem own : ownKnob Tryz.prog.godebug=none:=Zg
theorem I2 : laidOutB Tryz.prog=true:=Zg
def dec (n:Nat):List UInt8:=if h:n<10 then [UInt8.ofNat (48+n)] else dec (n / 10)++ [UInt8.ofNat (48+n%10)]
termination_by n
decreasing_by omega
theorem Qt : ∀(d n:Nat),n<10^(d+1)->(dec n).length<=d+1:=by
 intro d
 induction d with
 | zero=>simp_all [dec]
 | succ d ih =>
  grind [dec]
def Xr (n:Int):List UInt8:=if n<0 then 45::dec n.natAbs else dec n.natAbs
theorem YA (n:Int) (h:EW n):(Xr n).length<=20:=by
 have h1:n.natAbs<10^(18+1):=Za
 have:=Qt 18 n.natAbs h1
 grind [Xr]
theorem Zo {p:Nat->Prop} {k:Nat} :(∀j,j<k+1->p j)↔((∀j,j<k->p j)/\p k) :=
 ⟨fun h=>⟨fun j hj=>h j Za,h k Za⟩,fun h j hj=>by
  grind⟩
def U8 (c:UInt8):Bool:=decide (48<=c.toNat/\c.toNat<=57)
def QE (c:UInt8):Bool:=decide (97<=c.toNat/\c.toNat<=122)||decide (65<=c.toNat/\c.toNat<=90)||decide (c.toNat=95)
def nameOk (s:List UInt8):Bool:=decide (1<=s.length)&&decide (s.length<=16)&& !U8 (nth s 0)&&s.all fun c=>QE c||U8 c
def rng (n lo hi:Int):Bool:=decide (lo<=n/\n<=hi)
def PO (n:Int):Bool:=rng n 0 4096
def mD (l:List Pt) (i:Nat):Prop:=(0<=(nth l i).t/\(nth l i).t<=4096/\(nth l i).t<=(nth l i).a/\(nth l i).a<=(nth l i).t+4096)/\(0<i->(nth l (i-1)).t<(nth l i).t/\(nth l (i-1)).a<=(nth l i).a)
def Wp (l:List Pt):Prop:=(1<=l.length/\l.length<=16)/\ ∀i,i<l.length->mD l i
def Hz (l:List Pt) (i:Nat):Prop:=PO (nth l i).t=true/\PO (nth l i).a=true/\(0<i->(nth l (i-1)).t<(nth l i).t)
def L8 (n:Net) (i:Nat):Prop :=
 ((((((0<=(nth n.arcs i).src/\(nth n.arcs i).src<n.places.length/\0<=(nth n.arcs i).dst/\(nth n.arcs i).dst<n.places.length) /\
 (0<=(nth n.arcs i).prof/\(nth n.arcs i).prof<=7/\0<=(nth n.arcs i).miles/\(nth n.arcs i).miles<=10000/\(nth n.arcs i).src≠(nth n.arcs i).dst)) /\
 (∀k,k<i-> ¬((nth n.arcs i).src=(nth n.arcs k).src/\(nth n.arcs i).dst=(nth n.arcs k).dst/\(nth n.arcs i).prof=(nth n.arcs k).prof))) /\
 Wp (nth n.arcs i).travel)/\(nth n.arcs i).slow.length<=16)/\ ∀k,k<(nth n.arcs i).slow.length->Hz (nth n.arcs i).slow k)
def mC (n:Net) (i:Nat):Prop:=nameOk (nth n.places i)=true/\ ∀k,k<i->nth n.places k≠nth n.places i
def Ha (n:Net):Prop:=n.places.length<=24/\ ∀i,i<n.places.length->mC n i
def netOk (n:Net):Prop:=(Ha n/\n.arcs.length<=1024)/\ ∀i,i<n.arcs.length->L8 n i
set_option maxRecDepth 8000
set_option maxHeartbeats 4000000
theorem gL (c:UInt8):PC 120 [.p (.int .u8 (c.toNat:Nat))] (.bool (U8 c)):=by
 refine Zc Tryz.func120 rfl NU ?_;simp (disch:=omega) only [Tryz.f120,go_sem,seval];refine gT ?_ ?_<;>intro h<;>simp (disch:=omega) only [Sh.out h,go_sem,seval,↓reduceIte]
 all_goals (simp [U8];first | done | omega | grind)
theorem cU (c:UInt8):PC 179 [.p (.int .u8 (c.toNat:Nat))] (.bool (QE c)):=by
 refine Zc Tryz.func179 rfl Og ?_;simp (disch:=omega) only [Tryz.f179,go_sem,seval]
 repeat' (first | (refine gT ?_ ?_<;>intro hq<;>simp (disch:=omega) only [Sh.out hq,go_sem,seval,↓reduceIte]) | (refine gF ?_ ?_<;>intro hq<;>simp (disch:=omega) only [Sh.out hq,go_sem,seval,↓reduceIte]) | (refine Kb (fun hq=> ?_) (fun hq=> ?_)<;>(try simp only [decide_eq_true_eq,decide_eq_false_iff_not,Classical.not_not] at hq)<;>simp (disch:=omega) only [Sh.out hq,go_sem,seval]))
 all_goals (simp [QE];first | done | omega | (rw [Bool.eq_iff_iff];simp;omega))
theorem U6 (n:Int) (hn:EW n):PC 44 [.p (.int .i64 n)] (.str (Xr n)):=by
 refine Zc Tryz.func44 rfl bP ?_;simp (disch:=omega) only [Tryz.f44,go_sem,seval]
 have h19:n.natAbs<10^(18+1):=Za
 have hdl:=Qt 18 n.natAbs h19
 refine ZI [7] [0] (fun q:Int×List UInt8×Bool=> [(3,.p (.str q.2.1)),(4,.p (.int .i64 q.1)),(5,.p (.bool q.2.2))]) (fun _=> [])
  (fun q=>EW q.1/\(q.2.2=true->dec q.1.natAbs++q.2.1=dec n.natAbs)/\(q.2.2=false->q.2.1=dec n.natAbs)) (fun q=>if q.2.2 then q.1.natAbs+1 else 0) (n,[],true) (by simp;omega) (Weak.mk ?_) ?_
 ·simp (disch:=omega) only [go_sem,seval,↓reduceIte]
 ·rintro ⟨m,s,again⟩ ⟨hm,h1,h2⟩;simp only at hm h1 h2;refine Zi ?_
  cases again with
  | false =>
   refine Zi ?_;have h2:=h2 rfl
   have hl2:([45]:List UInt8).length+(dec n.natAbs).length<=9223372036854775807:=by simp;omega
   refine cD ?_ ?_<;>intro h3<;>simp (disch:=omega) only [Sh.out h3,go_sem,seval]
   ·simp (disch:=omega) only [Xr,h2,h3,ZK hl2,go_sem,seval,↓reduceIte]
   ·simp (disch:=omega) only [Xr,h2,h3,go_sem,seval,↓reduceIte]
  | true =>
   have h1:=h1 rfl
   have hls:(dec m.natAbs).length+s.length=(dec n.natAbs).length:=by grind
   refine Zi ?_
   have e1:(m.tmod 10).natAbs=m.natAbs%10:=Zb
   have e2:(m.tdiv 10).natAbs=m.natAbs / 10:=by grind
   have e3:m.tmod 10<10/\ -10<m.tmod 10:=⟨Int.tmod_lt_of_pos _ (by decide),Za⟩;refine XN [0,3,4] (fun _:Unit=> [(6,.p (.int .i64 ((m.natAbs%10:Nat):Int)))]) (fun _=> []) (fun _=>True) ?_ ?_
   ·refine Zi ?_;refine cD ?_ ?_<;>intro h3<;>simp (disch:=omega) only [Sh.out h3,go_sem,seval,↓reduceIte]
    ·exact ⟨(),Weak.mk (by refine Zi ?_;simp;omega)⟩
    ·exact ⟨(),Weak.mk (by refine Zi ?_;simp;omega)⟩
   ·intro _ _;refine Ze [] _ _ _ _ ?_;simp (disch:=first | omega | (simp only [List.length_cons,List.length_nil,List.length_append,List.length_map,List.length_take,List.length_drop]<;>omega)) only [go_sem,seval,↓reduceIte]
    have e4:(48+((m.natAbs%10:Nat):Int)).toNat=48+m.natAbs%10:=Za
    refine ⟨(m.tdiv 10,UInt8.ofNat (48+m.natAbs%10)::s,decide (m.tdiv 10≠0)),⟨?_,?_,?_⟩,?_,Weak.mk ?_⟩
    ·omega
    ·simp only [decide_eq_true_eq];intro hne
     have h10: ¬m.natAbs<10:=Za
     rw [e2,<- h1,dec.eq_def m.natAbs,dif_neg h10];simp
    ·simp only [decide_eq_false_iff_not,Classical.not_not];intro hz
     have h10:m.natAbs<10:=Za
     rw [<- h1,dec.eq_def m.natAbs,dif_pos h10,Nat.mod_eq_of_lt h10];simp
    ·grind
    ·simp (disch:=omega) only [e4,go_sem,seval]
set_option maxHeartbeats 8000000
def Pf (n:Net):List AM.Obj:= [.cells [.p (.list n.places_c (n.places.map eS)),.p (.list n.arcs_c (n.arcs.map VJ))]]
set_option maxHeartbeats 16000000
def D1 (a:Arc):AM.Obj:= .cells [.p (.int .i64 a.src),.p (.int .i64 a.dst),.p (.int .i64 a.prof),.p (.int .i64 a.miles),.p (.list a.travel_c (a.travel.map Ej)),.p (.list a.slow_c (a.slow.map Ej))]
theorem Xe {α:Type} [Inhabited α] {l:List α} {i:Nat} (h:i<l.length):nth l i∈l:=by grind [Zh]
end Go.Proofs.YtmbelkfkhclnkaaGreatDoor.K
namespace Go.Proofs.YtmbelkfkhclnkaaGreatDoor.K
section
variable {L : Type} (fin : L -> Int) (beats : L -> L -> Bool) (nxt : Nat -> L -> Bool -> Option L) (choices : Nat -> List Bool)
def YD : Option L->List L->Option L
 | b,[]=>b
 | none,x::l=>YD (some x) l
 | some m,x::l=>if fin x<fin m then YD (some x) l else YD (some m) l
theorem W0 : ∀(b:Option L) (l r:List L),YD fin b (l++r)=YD fin (YD fin b l) r
 | b,[],r=>by rfl
 | none,x::l,r=>by rw [List.cons_append,YD,YD,W0]
 | some m,x::l,r=>by
  rw [List.cons_append,YD,YD]
  split
  ·rw [W0]
  ·rw [W0]
theorem WD : ∀(l:List L) (m:L),∃z,YD fin (some m) l=some z/\fin z<=fin m/\ ∀y∈l,fin z<=fin y
 | [],m=>⟨m,rfl,Za,Zb⟩
 | x::l,m=>by
  rw [YD]
  split
  ·rename_i h;obtain ⟨z,e,h1,h2⟩:=WD l x
   grind
  ·rename_i h;obtain ⟨z,e,h1,h2⟩:=WD l m
   grind
theorem Ax : ∀(l:List L) (m:L),(∀y∈l,fin m<=fin y)->YD fin (some m) l=some m
 | [],m,_=>rfl
 | x::l,m,h=>by
  have:=h x List.mem_cons_self;rw [YD,if_neg Za];exact Ax l m fun y hy=>h y (List.mem_cons_of_mem _ hy)
theorem Eo (A B:List L) (h: ∀y∈B,∃z∈A,fin z<=fin y):YD fin none (A++B)=YD fin none A:=by
 rw [W0]
 cases A with
 | nil=>cases B with
  | nil=>rfl
  | cons y B=>grind [List.mem_cons_self]
 | cons a A =>
  rw [YD];obtain ⟨z,e,h1,h2⟩:=WD fin A a;rw [e];refine Ax fin B z fun y hy=> ?_
  grind
def ZP : List L->List L->List L
 | out,[]=>out
 | out,x::l=>if out.any (fun m=>beats m x)=true then ZP out l else ZP (out++ [x]) l
theorem Uj {R:L->List L} : ∀(c out:List L),(∀x∈out++c,∀m∈out++c,beats m x=true-> ∀y∈R x,∃z∈R m,fin z<=fin y)->YD fin none ((ZP beats out c).flatMap R)=YD fin none ((out++c).flatMap R)
 | [],out,_=>by simp [ZP]
 | x::c,out,h=>by
  rw [ZP]
  split
  ·rename_i hb;obtain ⟨m,hm,hb⟩:=List.any_eq_true.1 hb
   have hb:beats m x=true:=by simpa using hb
   rw [Uj c out (fun a ha b hb=>h a (by simp only [List.mem_append,List.mem_cons] at ha ⊢;rcases ha with h | h<;>simp [h]) b (by simp only [List.mem_append,List.mem_cons] at hb ⊢;rcases hb with h | h<;>simp [h]))];rw [List.flatMap_append,List.flatMap_append,List.flatMap_cons,<- List.append_assoc,W0,W0 (l:=out.flatMap R++R x)];rw [Eo fin (out.flatMap R) (R x)];intro y hy;obtain ⟨z,hz,hle⟩:=h x Zb m (by simp [hm]) hb y hy;exact ⟨z,List.mem_flatMap.2 ⟨m,hm,hz⟩,hle⟩
  ·rw [Uj c (out++ [x]) (by simpa using h)];simp
theorem W6 : ∀(c out:List L),∀x∈ZP beats out c,x∈out++c
 | [],out,x,h=>by grind [ZP]
 | a::c,out,x,h=>by
  rw [ZP] at h
  split at h
  ·have:=W6 c out x h;simp only [List.mem_append,List.mem_cons] at this ⊢;rcases this with h | h<;>simp [h]
  ·have:=W6 c (out++ [a]) x h;simpa using this
def Ku : Nat->Nat->List (List Bool)
 | 0,_=> [[]]
 | j+1,k=>(choices k).flatMap fun b=>(Ku j (k+1)).map (b:: ·)
def Vz : Nat->L->List Bool->Option L
 | _,x,[]=>some x
 | k,x,b::bs=>match nxt k x b with
  | some y=>Vz (k+1) y bs
  | none=>none
def XU (j k:Nat) (x:L):List L:=(Ku choices j k).filterMap (Vz nxt k x)
def XF (k:Nat) (l:List L):List L:=l.flatMap fun x=>(choices k).filterMap (nxt k x)
def Wn : Nat->Nat->List L->List L
 | 0,_,l=>l
 | j+1,k,l=>Wn j (k+1) (ZP beats [] (XF nxt choices k l))
theorem Cq (k:Nat) (x:L):XU nxt choices 0 k x= [x]:=rfl
theorem QX (j k:Nat) (x:L):XU nxt choices (j+1) k x=((choices k).filterMap (nxt k x)).flatMap (XU nxt choices j (k+1)):=by
 unfold XU;rw [Ku]
 induction choices k with
 | nil=>rfl
 | cons b bs ih =>
  rw [List.flatMap_cons,List.filterMap_append,ih,List.filterMap_cons]
  cases h:nxt k x b with
  | none =>
   simp_all [Vz]
  | some y =>
   rw [List.filterMap_map]
   have:(Vz nxt k x∘fun l=>b::l)=Vz nxt (k+1) y:=by grind [Vz]
   grind
theorem JW {n:Nat} {Inv:Nat->L->Prop} (hI: ∀k x b y,Inv k x->nxt k x b=some y->Inv (k+1) y) (hd: ∀k m x b y,Inv k m->Inv k x->beats m x=true->nxt k x b=some y-> ∃z,nxt k m b=some z/\beats z y=true)
  (he: ∀m x,Inv n m->Inv n x->beats m x=true->fin m<=fin x): ∀(j k:Nat) (m x:L),k+j=n->Inv k m->Inv k x->beats m x=true-> ∀y∈XU nxt choices j k x,∃z∈XU nxt choices j k m,fin z<=fin y
 | 0,k,m,x,hk,h1,h2,hb,y,hy=>by
  grind [Cq]
 | j+1,k,m,x,hk,h1,h2,hb,y,hy=>by
  rw [QX] at hy ⊢;obtain ⟨q,hq,hy⟩:=List.mem_flatMap.1 hy;obtain ⟨b,hbm,hn⟩:=List.mem_filterMap.1 hq;obtain ⟨z,hz,hzb⟩:=hd k m x b q h1 h2 hb hn;obtain ⟨u,hu,hle⟩:=JW hI hd he j (k+1) z q Za (hI k m b z h1 hz) (hI k x b q h2 hn) hzb y hy
  grind
theorem Dn {n:Nat} {Inv:Nat->L->Prop} (hI: ∀k x b y,Inv k x->nxt k x b=some y->Inv (k+1) y) (hd: ∀k m x b y,Inv k m->Inv k x->beats m x=true->nxt k x b=some y-> ∃z,nxt k m b=some z/\beats z y=true)
  (he: ∀m x,Inv n m->Inv n x->beats m x=true->fin m<=fin x): ∀(j k:Nat) (l:List L),k+j=n->(∀x∈l,Inv k x)->YD fin none (Wn beats nxt choices j k l)=YD fin none (l.flatMap (XU nxt choices j k))
 | 0,k,l,hk,hl=>by
  have:l.flatMap (XU nxt choices 0 k)=l:=by
   have:XU nxt choices 0 k=fun x=> [x]:=by rfl
   rw [this];simp
  rw [this];rfl
 | j+1,k,l,hk,hl=>by
  have hc: ∀x∈XF nxt choices k l,Inv (k+1) x:=fun x hx=>by
   obtain ⟨q,hq,hx⟩:=List.mem_flatMap.1 hx
   grind
  have e:l.flatMap (XU nxt choices (j+1) k)=(XF nxt choices k l).flatMap (XU nxt choices j (k+1)):=by
   rw [XF,List.flatMap_assoc]
   congr 1
   grind [QX]
  rw [Wn,Dn hI hd he j (k+1) _ Za (fun x hx=>hc x (by simpa using W6 beats _ _ x hx)),Uj fin beats _ _ (fun x hx m hm hb y hy=> ?_),e]
  ·simp
  ·exact JW fin beats nxt choices hI hd he j (k+1) m x Za (hc m (by grind)) (hc x (by grind)) hb y hy
def Xj : List Bool->List (List Bool)
 | []=> [[]]
 | b::bs=>if b then (Xj bs).map (true:: ·) else (Xj bs).map (false:: ·)++(Xj (List.replicate bs.length false)).map (true:: ·)
termination_by l => l.length
decreasing_by all_goals simp
def WM : List Bool->Option (List Bool)
 | []=>none
 | b::bs=>match WM bs with
  | some l=>some (b::l)
  | none=>if b then none else some (true::List.replicate bs.length false)
theorem Vs : ∀l:List Bool,Xj l=l::(match WM l with | some r=>Xj r | none=> [])
 | []=>by simp [Xj,WM]
 | b::bs=>by
  have ih:=Vs bs
  have e0: ∀l:List Bool,Xj (true::l)=(Xj l).map (true:: ·):=fun l=>by rw [Xj];simp
  have e1: ∀l:List Bool,Xj (false::l)=(Xj l).map (false:: ·)++(Xj (List.replicate l.length false)).map (true:: ·):=fun l=>by rw [Xj];simp
  cases b with
  | true =>
   rw [e0,ih,WM]
   cases h:WM bs with
   | none=>simp
   | some r=>simp [e0]
  | false =>
   rw [e1,ih,WM]
   cases h:WM bs with
   | none=>simp [e0]
   | some r =>
    have hl:r.length=bs.length:=nlen bs r h;simp [e1,hl]
where nlen : ∀(l r:List Bool),WM l=some r->r.length=l.length
 | [],r,h=>by simp [WM] at h
 | b::bs,r,h=>by
  rw [WM] at h
  cases h2:WM bs with
  | none =>
   grind
  | some q =>
   rw [h2] at h;simp at h;subst h;simp [nlen bs q h2]
theorem As {n:Nat} : ∀(j k:Nat),(∀q,k<=q->choices q= [false,true])->Ku choices j k=Xj (List.replicate j false)
 | 0,k,_=>by simp [Ku,Xj]
 | j+1,k,h=>by
  rw [Ku,h k (Nat.le_refl _),As (n:=n) j (k+1) (fun q hq=>h q Za),List.replicate_succ,Xj];simp
end
end Go.Proofs.YtmbelkfkhclnkaaGreatDoor.K
namespace Go.Proofs.YtmbelkfkhclnkaaGreatDoor.K
open Go Go.AM Go.Proofs
def Zj (x:Inst):AM.Obj:= .cells [.p (.list x.net.places_c (x.net.places.map eS)),.p (.list x.net.arcs_c (x.net.arcs.map VJ)),.p (.list x.types_c (x.types.map Jj)),.p (.list x.orders_c (x.orders.map Wr)),.p (.list x.apart_c (x.apart.map eP)),.p (.list x.before_c (x.before.map eP))]
def zSco : Sco:=⟨0,0,0,0⟩
set_option maxRecDepth 8000
set_option maxHeartbeats 16000000
def FF (l:List Int) (d:Int):Bool:=rng l.length 1 3&&decide ((l.length:Int)=d)&&l.all fun n=>rng n 0 1000
def dimsOf (l:List Typ):Int:=if l.length=0 then 0 else ((nth l 0).cap.length:Int)
def PU (t:Typ):AM.Obj:= .cells [.p (.str t.name),.p (.int .i64 t.count),.p (.int .i64 t.src),.p (.int .i64 t.dst),.p (.list t.cap_c (t.cap.map eI)),.p (.int .i64 t.skills),.p (.int .i64 t.prof),.p (.int .i64 t.opn),.p (.int .i64 t.cls),.p (.int .i64 t.drive),.p (.int .i64 t.rest),.p (.int .i64 t.fixed),.p (.int .i64 t.perMile),.p (.int .i64 t.perTick)]
def DM (n:Net) (l:List Typ) (i:Nat):Prop:=((((((((nameOk (nth l i).name=true)/\(∀j,j<i->(nth l j).name≠(nth l i).name))/\rng (nth l i).count 0 10=true)/\(rng (nth l i).src 0 (n.places.length-1)=true/\rng (nth l i).dst 0 (n.places.length-1)=true))/\FF (nth l i).cap (dimsOf l)=true)/\rng (nth l i).skills 0 1073741823=true)/\(rng (nth l i).opn 0 (nth l i).cls=true/\(nth l i).cls<=4096))/\(rng (nth l i).drive 1 4096=true/\rng (nth l i).rest 0 4096=true))/\(rng (nth l i).prof 0 7=true/\rng (nth l i).fixed 0 100000=true/\rng (nth l i).perMile 0 100=true/\rng (nth l i).perTick 0 100=true)
def typesOk (n:Net) (l:List Typ):Prop:=rng l.length 1 6=true/\ ∀i,i<l.length->DM n l i
def loadOk (l:List Int) (d:Int):Bool:=decide ((l.length:Int)=d)&&l.all fun n=>rng n 0 1000
def stpOk (s:Stp):Bool:=decide ((s.place= -1/\s.opn=0/\s.cls=0/\s.serv=0)\/(0<=s.place/\0<=s.opn/\s.opn<=s.cls/\s.cls<=4096/\0<=s.serv/\s.serv<=4096))
def No (t:Ord):Bool:=decide (t.pick.place≠ -1)&&decide (t.drp.place≠ -1)
def argOk (t:Ord) (ty:Int):Bool:=rng t.penalty (-1) 1000000&&rng t.split 1 4&&decide (¬(1<t.split/\No t=true)/\ -1<=t.last/\t.last<ty/\ -1<=t.now/\t.now<ty)
structure OrdOk (np:Nat) (d ty:Int) (l:List Ord) (i:Nat):Prop where
 name:nameOk (nth l i).name=true
 twin: ∀j,j<i->(nth l j).name≠(nth l i).name
 load:loadOk (nth l i).load d=true
 pick: -1<=(nth l i).pick.place/\(nth l i).pick.place<np
 drp: -1<=(nth l i).drp.place/\(nth l i).drp.place<np
 one: ¬((nth l i).pick.place= -1/\(nth l i).drp.place= -1)
 pstp:stpOk (nth l i).pick=true
 dstp:stpOk (nth l i).drp=true
 skills:0<=(nth l i).skills/\(nth l i).skills<=1073741823
 arg:argOk (nth l i) ty=true
def ordersOk (np:Nat) (d ty:Int) (l:List Ord):Prop:=l.length<=10/\ ∀i,i<l.length->OrdOk np d ty l i
def dF (n:Int) (p:Int×Int):Bool:=decide (0<=p.1/\p.1<n)&&decide (0<=p.2/\p.2<n)&&decide (¬p.1=p.2)
def oY (word:List UInt8) (i:Nat):List UInt8:=word++ [32]++dec i
def pH (n:Int) (word:List UInt8) (sm:Int×Int->Int×Int->Bool) (l:List (Int×Int)) (i:Nat):List (Int×List UInt8) :=
 if dF n (nth l i)=false then [(2,oY word i)] else if (l.take i).any (sm (nth l i)) then [(6,oY word i)] else []
def lL (word:List UInt8) (l:List (Int×Int)):List (Int×List UInt8):=if 16<l.length then [(4,word)] else []
def NF (n:Int) (word:List UInt8) (sm:Int×Int->Int×Int->Bool) (l:List (Int×Int)) (k:Nat):List (Int×List UInt8):=lL word l++(List.range k).flatMap (pH n word sm l)
def chk (n:Int) (ap be:List (Int×Int)):List (Int×List UInt8) :=
 NF n [97,112,97,114,116] (fun p q=>decide (p=q\/(p.1=q.2/\p.2=q.1))) ap ap.length++NF n [98,101,102,111,114,101] (fun p q=>decide (p=q)) be be.length
@[go_sem] theorem Rx {H:List AM.Obj} {β:Type} {S b o n:Nat} {xs:List PV} {g:β->PV} {m:List β} (hb:(n+m.length)*b<=140737488355328) (hb2:n+m.length<=140737488355328) :
  Y7 H (some (S,b)) (.elems S xs) o n (some (m.map g))=if xs.length=n/\Jl S (m.map g)=true then some (.sl o 0 (n+m.length) (n+m.length),Je H o (.elems S (xs++m.map g))) else none:=by
 simp_all [Fo]
structure InstOk (x:Inst):Prop where
 net:netOk x.net
 types:typesOk x.net x.types
 orders:ordersOk x.net.places.length (dimsOf x.types) x.types.length x.orders
 rules:chk x.orders.length x.apart x.before= []
theorem CU (a:Int):IntKind.i64.wrap ((BitVec.ofInt 64 a&&&BitVec.ofInt 64 1).toNat:Int)=a%2:=by
 grind [BitVec.toNat_ofInt,IntWalk.i64_in]
def U1 (s i:Int):Bool:=decide (0<=i)&&decide (i<=62)&&decide (s.fdiv (2^i.toNat)%2=1)
theorem aT (s i:Int):PC 226 [.p (.int .i64 s),.p (.int .i64 i)] (.bool (U1 s i)):=by
 refine Zc Tryz.func226 rfl OR ?_;simp (disch:=omega) only [Tryz.f226,go_sem,seval];refine gT ?_ ?_<;>intro h<;>simp (disch:=omega) only [Sh.out h,go_sem,seval,↓reduceIte]
 ·refine gT ?_ ?_<;>intro h1<;>simp (disch:=omega) only [Sh.out h1,go_sem,seval,↓reduceIte]
  ·have:min i.toNat 64=i.toNat:=Za
   rw [this]
   erw [CU]
   simp [U1,h,h1]
  grind [U1]
 ·simp [U1,h]
def Xd (s:Int) (k:Nat):List Int:=((List.range k).filter fun (i:Nat)=>U1 s (i:Int)).map fun (i:Nat)=>(i:Int)
theorem Ez (s:Int):Xd s 0= []:=by simp [Xd]
theorem GK {s:Int} {k:Nat} (h:U1 s (k:Int)=true):Xd s (k+1)=Xd s k++ [(k:Int)]:=by grind [Xd,List.range_succ]
theorem I7 {s:Int} {k:Nat} (h:U1 s (k:Int)=false):Xd s (k+1)=Xd s k:=by grind [Xd,List.range_succ]
theorem AK (s:Int) (k:Nat):(Xd s k).length<=k:=by
 grind [Xd]
theorem EA (s:Int):ACalls Tryz.prog 196 [.p (.int .i64 s)] [] fun x H'=>x= .sl 0 0 (Xd s 63).length (Xd s 63).length/\H'= [.elems 1 ((Xd s 63).map eI)]:=by
 refine Ka (fn:=Tryz.f196) Zb Tryz.func196 rfl OA ?_;simp (disch:=omega) only [Tryz.f196,go_sem,seval];refine Zl [0] (fun k:Nat=> [(3,.sl 0 0 (Xd s k).length (Xd s k).length),(5,.p (.int .i64 k))]) (fun k=> [.elems 1 ((Xd s k).map eI)]) (fun k=>k<=63) (fun k=>63-k) 0 Zb (Weak.ofNil 3 1 (by simp (disch:=omega) only [go_sem,seval]) Zb (Weak.mk ?_)) ?_
 ·simp (disch:=omega) only [Ez,go_sem,seval,↓reduceIte]
 ·intro k hk;have hl:=AK s k;refine Zi ?_;refine cD ?_ ?_<;>intro h<;>simp (disch:=omega) only [Sh.out h,go_sem,seval,↓reduceIte]
  ·refine (aT s k).use (Zi ?_);refine cD ?_ ?_<;>intro h2<;>simp (disch:=omega) only [Sh.out h2,go_sem,seval,↓reduceIte]
   ·refine ⟨k+1,Za,Za,Weak.mk ?_⟩;simp (disch:=omega) only [GK h2,go_sem,seval]
   ·exact ⟨k+1,Za,Za,Weak.mk (by simp (disch:=omega) only [I7 h2,go_sem,seval])⟩
  ·have:k=63:=Za
   subst this;exact ⟨0,by simp (disch:=omega) only [go_sem,seval]⟩
def hv (s k:Nat):Nat:=s / pw k
theorem NN (s k:Nat):s.testBit k=decide (hv s k%2=1):=by
 rw [Nat.testBit_eq_decide_div_mod_eq]
 rfl
theorem Bc (s i:Nat) (hi:i<=62):U1 (s:Int) (i:Int)=s.testBit i:=by
 rw [NN,hv]
 have h1:(0:Int)<=i:=Za
 have h2:(i:Int)<=62:=Za
 simp only [U1,h1,h2,decide_true,Bool.true_and,Int.toNat_natCast]
 have e:((s:Int)).fdiv (2^i)=((s / pw i:Nat):Int):=by
  grind [pw]
 grind
theorem CV {α:Type} [Inhabited α] {l:List α} {f:α->Bool} {k:Nat} (h:k<l.length) (hf:f (nth l k)=true):l.any f=true:=by
 grind [Zh]
theorem Fl {α:Type} [Inhabited α] {l:List α} {f:α->Bool} (h: ∀j,j<l.length->f (nth l j)=false):l.any f=false:=by
 rw [List.any_eq_false];intro x hx;obtain ⟨j,hj,rfl⟩:=List.mem_iff_getElem.1 hx
 grind [Zh]
deriving instance DecidableEq for Vis
theorem CK {v w:Vis} :v=w↔v.order=w.order/\v.drp=w.drp:=by cases v;cases w;simp
def B1 (f:Vis->Bool) (l:List Vis):Int:=match l.findIdx? f with | some i=>(i:Int) | none=> -1
def vIx (l:List Vis) (v:Vis):Int:=B1 (fun w=>decide (v=w)) l
theorem B2 {f:Vis->Bool} {l:List Vis} {k:Nat} (hk:k<l.length) (h:f (nth l k)=true) (hno: ∀j,j<k->f (nth l j)=false):B1 f l=(k:Int):=by
 have:l.findIdx? f=some k:=by
  grind [List.findIdx?_eq_some_iff_getElem,Zh]
 simp [B1,this]
theorem FY {f:Vis->Bool} {l:List Vis} (hno: ∀j,j<l.length->f (nth l j)=false):B1 f l= -1:=by
 have:l.findIdx? f=none:=by
  rw [List.findIdx?_eq_none_iff];intro x hx;obtain ⟨j,hj,rfl⟩:=List.mem_iff_getElem.1 hx
  grind [Zh]
 simp [B1,this]
theorem FX {f:Vis->Bool} {l:List Vis} :decide (0<=B1 f l)=l.any f:=by
 grind [B1]
theorem NE {f:Vis->Bool} {l:List Vis} :B1 f l<l.length/\ -1<=B1 f l:=by
 grind [B1,List.findIdx?_eq_some_iff_getElem]
theorem Yl {P:Program} {id:Nat} {l:List Oper} {fr:List V} {H:List AM.Obj} {Q:Exit->List V->List AM.Obj->Prop} {t} (h:hs P (l.map (·.dst)) H (Zn (fun fr'=>Q .normal (Gs fr') H) ⟨⟩) l (Gs fr)) (hm:P.follows .mixedOrders=true:=by exact mixed) (hB:Wm (List.toArray l) l.length=true:=by kernel_rfl) (hR:UE (List.toArray l) l.length=true:=by kernel_rfl):AWP P (.region id (Zn (List.toArray l) t) true) fr H Q:=BN hm hB hR h
theorem Dk (l:List Vis) (c:Bool) (v:Vis) (hl:l.length<=1048576):PC 234 [.p (.list c (l.map ZW)),.p (ZW v)] (.int .i64 (vIx l v)):=by
 refine Zc Tryz.func234 rfl OS ?_;simp (disch:=omega) only [Tryz.f234,go_sem,seval];refine Zl [0,3,7] (fun k:Nat=> [(8,.p (.int .i64 k))]) (fun _=> [.cells [.p (.int .i64 v.order),.p (.bool v.drp)]]) (fun k=>k<=l.length/\ ∀j,j<k->decide (v=nth l j)=false) (fun k=>l.length-k) 0 Zb (Weak.mk ?_) ?_
 ·simp (disch:=omega) only [go_sem,seval,↓reduceIte]
 ·rintro k ⟨hk,hno⟩;refine Zi ?_;refine cD ?_ ?_<;>intro h<;>simp (disch:=omega) only [Sh.out h,go_sem,seval,↓reduceIte]
  ·have hk2:k<l.length:=Za
   refine Yl (Zi ?_);refine cD ?_ ?_<;>intro h2<;>simp (disch:=omega) only [Sh.out h2,go_sem,seval,↓reduceIte]
   ·grind [CK,vIx,B2]
   ·have: ¬v=nth l k:=by grind
    exact ⟨k+1,⟨Za,Zo.2 ⟨hno,by grind⟩⟩,Za,wk⟩
  grind [vIx,FY]
theorem DD (l:List Vis) (c:Bool) (v:Vis) (hl:l.length<=1048576):PC 216 [.p (.list c (l.map ZW)),.p (ZW v)] (.int .i64 (vIx l v)):=by
 refine Zc Tryz.func216 rfl OH ?_;simp (disch:=omega) only [Tryz.f216,go_sem,seval];refine (Dk l c v hl).use ?_;simp (disch:=omega) only [go_sem,seval]
theorem Kq (l:List Vis) (c:Bool) (v:Vis) (hl:l.length<=1048576):PC 218 [.p (.list c (l.map ZW)),.p (ZW v)] (.bool (decide (0<=vIx l v))):=by
 refine Zc Tryz.func218 rfl OJ ?_;simp (disch:=omega) only [Tryz.f218,go_sem,seval];refine (Dk l c v hl).use ?_;simp (disch:=omega) only [go_sem,seval]
theorem LP (l:List Ord) (c:Bool) (n:Int) (hl:l.length<=1048576):PC 117 [.p (.list c (l.map Wr)),.p (.int .i64 n)] (.bool (decide (0<=n/\n<l.length))):=by
 refine Zc Tryz.func117 rfl Gu ?_;simp (disch:=omega) only [Tryz.f117,go_sem,seval];refine gT ?_ ?_<;>intro h<;>simp (disch:=omega) only [Sh.out h,go_sem,seval,↓reduceIte]
 all_goals (try simp [h])
def Ya (l:List Ord) (i:Nat):List Vis:=(if 0<=(nth l i).pick.place then [⟨i,false⟩] else [])++(if 0<=(nth l i).drp.place then [⟨i,true⟩] else [])
theorem HG (l:List Ord) (i:Nat):(Ya l i).length<=2:=by grind [Ya]
theorem CL (l:List Ord) (c:Bool) (i:Nat) (hi:i<l.length) (hl:l.length<=1048576):ACalls Tryz.prog 217 [.p (.list c (l.map Wr)),.p (.int .i64 (i:Nat))] [] fun x H'=>x= .sl 0 0 (Ya l i).length (Ya l i).length/\H'= [.elems 2 ((Ya l i).map ZW)]:=by
 suffices hh:ACalls Tryz.prog 217 [.p (.list c (l.map Wr)),.p (.int .i64 (i:Nat))] [] fun x H'=> ∃m:List Vis,m=Ya l i/\x= .sl 0 0 m.length m.length/\H'= [.elems 2 (m.map ZW)] by
  grind
 refine Jh [2] Tryz.func217 rfl OI ?_;simp (disch:=omega) only [Tryz.f217,go_sem,seval];refine Zz (Weak.ofNil 5 2 (by simp (disch:=omega) only [go_sem,seval]) Zb (Weak.refl _ _ _)) ?_;refine Ze [4] _ _ _ _ (Zi ?_);refine (LP l c i hl).use (Zi ?_)
 have h0:(0:Int)<=(i:Int)/\(i:Int)<(l.length:Int):=Za
 simp (disch:=omega) only [h0,go_sem,seval];refine XN [0,1] (fun m:List Vis=> [(5,.sl 0 0 m.length m.length)]) (fun m=> [.elems 2 (m.map ZW)]) (fun m=>m=(if 0<=(nth l i).pick.place then [⟨i,false⟩] else [])) ?_ ?_
 ·refine Zi ?_;refine cD ?_ ?_<;>intro h<;>simp (disch:=omega) only [Sh.out h,go_sem,seval,↓reduceIte]
  ·exact ⟨[⟨i,false⟩],by simp [],wk⟩
  ·exact ⟨[],by simp [],wk⟩
 ·intro m hm
  have hml:m.length<=1:=by grind
  refine Ze [] _ _ _ _ (Zi ?_);refine cD ?_ ?_<;>intro h<;>simp (disch:=omega) only [Sh.out h,go_sem,seval,↓reduceIte]
  ·exact ⟨m++ [⟨i,true⟩],by simp_all [Ya],0,by simp (disch:=omega) only [go_sem,seval]⟩
  ·exact ⟨m,by simp_all [Ya],0,by simp (disch:=omega) only [go_sem,seval]⟩
theorem visits_c (l:List Ord) (c:Bool) (i:Nat) (hi:i<l.length) (hl:l.length<=1048576):PC 217 [.p (.list c (l.map Wr)),.p (.int .i64 (i:Nat))] (.list false ((Ya l i).map ZW)) :=
 (CL l c i hi hl).frozen Zb
def UL (l:List Vis):Bool:=(List.range l.length).any fun i=>decide (0<=vIx (l.take i) (nth l i))
theorem LR (l:List Vis) (c:Bool) (hl:l.length<=1048576):PC 183 [.p (.list c (l.map ZW))] (.bool (UL l)):=by
 refine Zc Tryz.func183 rfl Ol ?_;simp (disch:=omega) only [Tryz.f183,go_sem,seval];refine Zl [0,5,6] (fun k:Nat=> [(7,.p (.int .i64 k))]) (fun _=> []) (fun k=>k<=l.length/\ ∀j,j<k->decide (0<=vIx (l.take j) (nth l j))=false) (fun k=>l.length-k) 0 Zb (Weak.mk ?_) ?_
 ·simp (disch:=omega) only [go_sem,seval,↓reduceIte]
 ·rintro k ⟨hk,hno⟩;refine Zi ?_;refine cD ?_ ?_<;>intro h<;>simp (disch:=omega) only [Sh.out h,go_sem,seval,↓reduceIte]
  ·have hk2:k<l.length:=Za
   refine Yl (Zi ?_);refine ZN (DD (l.take k) _ (nth l k) (by simp;omega)) (Zi ?_);refine cD ?_ ?_<;>intro h2<;>simp (disch:=omega) only [Sh.out h2,go_sem,seval,↓reduceIte]
   ·grind [UL]
   ·exact ⟨k+1,⟨Za,Zo.2 ⟨hno,by grind⟩⟩,Za,wk⟩
  grind [UL]
theorem UU (l:List Vis) (c:Bool) (g:FuncId) (caps:List V) (H:List AM.Obj) (f:Vis->Bool) (hl:l.length<=1048576) (hW:Bx H H.length H H) (hc:ZA H.length caps=true)
  (hg: ∀v∈l,ACalls Tryz.prog g (.p (ZW v)::caps) H fun x H'=>x= .p (.bool (f v))/\H'=H) :
  ACalls Tryz.prog 215 [.p (.list c (l.map ZW)),.fn (.func g) [] caps] H fun x H'=>x= .p (.int .i64 (B1 f l))/\H'=H:=by
 refine Xa Tryz.func215 rfl OG (Ze [] _ _ _ _ ?_);simp (disch:=omega) only [Tryz.f215,go_sem,seval];refine Zl [0,1,7] (fun k:Nat=> [(8,.p (.int .i64 k))]) (fun _=>H) (fun k=>k<=l.length/\ ∀j,j<k->f (nth l j)=false) (fun k=>l.length-k) 0 Zb (Weak.mk ?_) ?_
 ·simp (disch:=omega) only [hW,hc,go_sem,seval];simp
 ·rintro k ⟨hk,hno⟩;refine Zi ?_;refine cD ?_ ?_<;>intro h<;>simp (disch:=omega) only [Sh.out h,go_sem,seval,↓reduceIte]
  ·have hk2:k<l.length:=Za
   refine (hg (nth l k) (Xe hk2)).useH (Zi ?_);refine cD ?_ ?_<;>intro h2<;>simp (disch:=omega) only [Sh.out h2,go_sem,seval,↓reduceIte]
   ·grind [B2]
   ·have h3:f (nth l k)=false:=Za
    refine ⟨k+1,⟨Za,Zo.2 ⟨hno,h3⟩⟩,Za,Weak.mk ?_⟩;simp (disch:=omega) only [hW,hc,go_sem,seval];simp
  grind [FY]
theorem Yz (l:List Vis) (c:Bool) (g:FuncId) (caps:List V) (H:List AM.Obj) (f:Vis->Bool) (hl:l.length<=1048576) (hW:Bx H H.length H H) (hc:ZA H.length caps=true)
  (hg: ∀v∈l,ACalls Tryz.prog g (.p (ZW v)::caps) H fun x H'=>x= .p (.bool (f v))/\H'=H) :
  ACalls Tryz.prog 180 [.p (.list c (l.map ZW)),.fn (.func g) [] caps] H fun x H'=>x= .p (.bool (l.any f))/\H'=H:=by
 refine Xa Tryz.func180 rfl Oh (Ze [] _ _ _ _ ?_);simp (disch:=omega) only [Tryz.f180,go_sem,seval];refine (UU l c g caps H f hl hW hc hg).useH (Zi ?_);rw [FX]
def Xx (l:List Vis) (o:Int):Bool:=l.any fun v=>decide (v.order=o)
theorem NK (v:Vis) (o:Int):ACalls Tryz.prog 219 [.p (ZW v),.ptr 0 0] [.cells [.p (.int .i64 o)]] fun x H'=>x= .p (.bool (decide (v.order=o)))/\H'= [.cells [.p (.int .i64 o)]]:=by
 refine Zd [] Tryz.func219 rfl OK ?_;simp (disch:=omega) only [Tryz.f219,go_sem,seval];exact we
theorem Ec (v:Vis) (o:Int):ACalls Tryz.prog 220 [.p (ZW v),.ptr 0 0] [.cells [.p (.int .i64 o)]] fun x H'=>x= .p (.bool (decide (v.order=o)))/\H'= [.cells [.p (.int .i64 o)]]:=by
 refine Zd [] Tryz.func220 rfl OL ?_;simp (disch:=omega) only [Tryz.f220,go_sem,seval];exact we
theorem V5 (l:List Vis) (c:Bool) (o:Int) (hl:l.length<=1048576):PC 185 [.p (.list c (l.map ZW)),.p (.int .i64 o)] (.bool (Xx l o)):=by
 refine Zc Tryz.func185 rfl On ?_;simp (disch:=omega) only [Tryz.f185,go_sem,seval];refine (Yz l c 219 [.ptr 0 0] [.cells [.p (.int .i64 o)]] (fun v=>decide (v.order=o)) hl (by simp (disch:=omega) only [go_sem,seval]) (by rfl) (fun v _=>NK v o)).useH (Zi ?_);rw [Xx]
def Yk (l:List Vis) (a b:Int):Bool:=if B1 (fun v=>decide (v.order=b)) l<0 then true else Xx l a&& !Xx (l.drop (B1 (fun v=>decide (v.order=b)) l).toNat) a
theorem Bf (l:List Vis) (c:Bool) (a b:Int) (hl:l.length<=1048576):PC 186 [.p (.list c (l.map ZW)),.p (.int .i64 a),.p (.int .i64 b)] (.bool (Yk l a b)):=by
 refine Zc Tryz.func186 rfl Oo ?_;simp (disch:=omega) only [Tryz.f186,go_sem,seval];refine (UU l c 220 [.ptr 0 0] [.cells [.p (.int .i64 b)]] (fun v=>decide (v.order=b)) hl (by simp (disch:=omega) only [go_sem,seval]) (by rfl) (fun v _=>Ec v b)).useH ?_;have hlt:=NE (f:=fun v=>decide (v.order=b)) (l:=l);refine Zi ?_;refine cD ?_ ?_<;>intro h<;>simp (disch:=omega) only [Sh.out h,go_sem,seval]
 ·rw [Yk,if_pos h]
 ·refine (V5 l c a hl).use (Zi ?_);generalize hq:B1 (fun v=>decide (v.order=b)) l=q at hlt h ⊢
  cases h2:Xx l a with
  | false =>
   refine Zi ?_
   simp_all [Yk]
  | true =>
   simp (disch:=omega) only [List.take_length,go_sem,seval];refine (V5 (l.drop q.toNat) _ a (by simp;omega)).use (Zi ?_)
   simp_all [Yk,if_neg]
def Uf (l:List Vis):Int->List Vis->Bool
 | _,[]=>true
 | last,w::r=>decide (last<vIx l w)&&Uf l (vIx l w) r
def pairB (os:List Ord) (l:List Vis) (v:Vis):Bool:=decide (0<=vIx (Ya os v.order.toNat) v)&&Uf l (-1) (Ya os v.order.toNat)
theorem Bg (x:Inst) (l:List Vis) (c:Bool) (hl:l.length<=1048576) (ho:x.orders.length<=1048576) (hv: ∀v∈l,0<=v.order/\v.order<x.orders.length) :
  PC 184 [.p (XW x),.p (.list c (l.map ZW))] (.bool (l.all (pairB x.orders l))):=by
 refine Zc Tryz.func184 rfl Om ?_;simp (disch:=omega) only [Tryz.f184,go_sem,seval];refine Zl [1,2,12,13] (fun k:Nat=> [(14,.p (.int .i64 k))]) (fun _=> [Zj x]) (fun k=>k<=l.length/\ ∀j,j<k->pairB x.orders l (nth l j)=true) (fun k=>l.length-k) 0 Zb (Weak.mk ?_) ?_
 ·simp (disch:=omega) only [Zj,go_sem,seval]
 ·rintro k ⟨hk,hno⟩;simp (disch:=omega) only [Zj,go_sem,seval];refine cD ?_ ?_<;>intro h<;>simp (disch:=omega) only [Sh.out h,go_sem,seval,↓reduceIte]
  ·have hk2:k<l.length:=Za
   obtain ⟨v1,v2⟩:=hv _ (Xe hk2)
   have hbad:pairB x.orders l (nth l k)=false->l.all (pairB x.orders l)=false:=fun h4=>by
    grind [Xe]
   obtain ⟨i,hi⟩: ∃i:Nat,(nth l k).order=(i:Int):=⟨(nth l k).order.toNat,Za⟩
   have hp:pairB x.orders l (nth l k)=(decide (0<=vIx (Ya x.orders i) (nth l k))&&Uf l (-1) (Ya x.orders i)):=by rw [pairB,hi];rfl
   rw [hi] at v1 v2;simp (disch:=omega) only [hi,go_sem,seval];refine (visits_c x.orders x.orders_c i Za ho).use (Zi ?_);have hvl:=HG x.orders i;have hcon:=Kq (Ya x.orders i) false (nth l k) Za;rw [IJ,hi] at hcon;refine (hcon).use (Zi ?_);refine cD ?_ ?_<;>intro h2<;>simp (disch:=omega) only [Sh.out h2,go_sem,seval]
   ·grind
   ·have h2':0<=vIx (Ya x.orders i) (nth l k):=Za
    generalize hown:Ya x.orders i=own at hvl hp h2' ⊢
    have hp2:pairB x.orders l (nth l k)=Uf l (-1) own:=by grind
    refine Zl [1,2,12,13,14,27,28] (fun q:Nat×Int=> [(8,.p (.int .i64 q.2)),(29,.p (.int .i64 q.1))]) (fun _=> [Zj x,.cells [.p (.int .i64 (i:Int)),.p (.bool (nth l k).drp)]]) (fun q=>q.1<=own.length/\Uf l (-1) own=Uf l q.2 (own.drop q.1)) (fun q=>own.length-q.1) (0,-1) Zb (Weak.mk ?_) ?_
    ·simp (disch:=omega) only [Zj,go_sem,seval]
    ·rintro ⟨j,last⟩ ⟨hj,ha⟩;simp only at hj ha;simp (disch:=omega) only [Zj,go_sem,seval];refine XQ ?_ ?_<;>intro h3
     ·have hj2:j<own.length:=Za
      have hd:own.drop j=nth own j::own.drop (j+1):=by rw [List.drop_eq_getElem_cons hj2,Zh hj2]
      rw [hd] at ha;refine (DD l c (nth own j) hl).use (Zi ?_);refine XQ ?_ ?_<;>intro h4
      ·grind [Uf]
      ·have h5:last<vIx l (nth own j):=Za
       exact ⟨(j+1,vIx l (nth own j)),⟨Za,by grind [Uf]⟩,Za,wk⟩
     ·have hjl:j=own.length:=Za
      subst hjl;exact ⟨k+1,⟨Za,Zo.2 ⟨hno,by grind [Uf]⟩⟩,Za,wk⟩
  ·have hkl:k=l.length:=Za
   subst hkl
   have:l.all (pairB x.orders l)=true:=by
    rw [List.all_eq_true];intro v hv;obtain ⟨j,hj,rfl⟩:=List.mem_iff_getElem.1 hv
    grind [Zh]
   rw [this]
def Zy (r:Rte):AM.Obj:= .cells [.p (.int .i64 r.typ),.p (.int .i64 r.start),.p (.list r.rests_c (r.rests.map eB)),.p (.list r.visits_c (r.visits.map ZW))]
def QU (x:Inst) (v:Vis):Bool:= !decide (0<=v.order/\v.order<(x.orders.length:Int))
theorem FG (x:Inst) (r:Rte) (v:Vis) (ho:x.orders.length<=1048576):ACalls Tryz.prog 181 [.p (ZW v),.ptr 0 0] [Zj x,Zy r] fun y H'=>y= .p (.bool (QU x v))/\H'= [Zj x,Zy r]:=by
 refine Zd [] Tryz.func181 rfl Oi ?_;simp (disch:=omega) only [Tryz.f181,Zj,Zy,go_sem,seval];refine gF ?_ ?_<;>intro h<;>simp (disch:=omega) only [Sh.out h,go_sem,seval,↓reduceIte]
 ·have e:QU x v=true:=by
   grind [QU]
  rw [e];exact we
 ·have e:QU x v=decide ((x.orders.length:Int)<=v.order):=by
   have h0:0<=v.order:=Za
   rw [Bool.eq_iff_iff];simp [QU,h0]
  rw [e];exact we
theorem FH (x:Inst) (r:Rte) (v:Vis) (ho:x.orders.length<=1048576) (h1:0<=v.order) (h2:v.order<x.orders.length):ACalls Tryz.prog 182 [.p (ZW v),.ptr 0 0] [Zj x,Zy r] fun y H'=>y= .p (.bool (nth x.orders v.order.toNat).off)/\H'= [Zj x,Zy r]:=by
 have h3:v.order.toNat<x.orders.length:=Za
 refine Zd [] Tryz.func182 rfl Oj ?_;simp (disch:=omega) only [Tryz.f182,Zj,Zy,go_sem,seval];exact we
def Z3 (x:Inst) (l:List Vis):Int :=
 if l.length=0\/l.any (QU x)=true then 2
 else if (l.any fun v=>(nth x.orders v.order.toNat).off)=true then 9
 else if UL l=true then 6
 else if l.all (pairB x.orders l)=false then 19
 else if (x.apart.any fun p=>Xx l p.1&&Xx l p.2)=true then 20
 else if (x.before.any fun p=> !Yk l p.1 p.2)=true then 21
 else 0
theorem J2 {P Q:Prop} (h:Q) (e:Q->P:=by intro h;simp (disch:=omega) only [Zj,Zy,go_sem,seval];exact h):P:=e h
theorem CA (x:Inst) (r:Rte) (ho:x.orders.length<=1048576) (hl:r.visits.length<=1048576) (hap:x.apart.length<=1048576) (hbe:x.before.length<=1048576) :
  PC 153 [.p (XW x),.p (XS r)] (.int .i64 (Z3 x r.visits)):=by
 refine Zc Tryz.func153 rfl N3 ?_;simp (disch:=omega) only [Tryz.f153,go_sem,seval];refine gF ?_ ?_<;>intro h0<;>simp (disch:=omega) only [Sh.out h0,go_sem,seval]
 ·grind [Z3]
 ·have h00: ¬r.visits.length=0:=Za
  refine (Yz r.visits r.visits_c 181 [.ptr 0 0] [Zj x,Zy r] (QU x) hl (by simp (disch:=omega) only [Zj,Zy,go_sem,seval]) (by rfl) (fun v _=>FG x r v ho)).useH (J2 ?_);refine cD ?_ ?_<;>intro h1<;>simp (disch:=omega) only [Sh.out h1,go_sem,seval]
  ·simp_all [Z3]
  ·have h1':r.visits.any (QU x)=false:=Za
   have c1: ¬(r.visits.length=0\/r.visits.any (QU x)=true):=by grind
   have hin: ∀v∈r.visits,0<=v.order/\v.order<x.orders.length:=fun v hv=>by
    grind [QU]
   refine (Yz r.visits r.visits_c 182 [.ptr 0 0] [Zj x,Zy r] (fun v=>(nth x.orders v.order.toNat).off) hl (by simp (disch:=omega) only [Zj,Zy,go_sem,seval]) (by rfl) (fun v hv=>FH x r v ho (hin v hv).1 (hin v hv).2)).useH (J2 ?_);refine cD ?_ ?_<;>intro h2<;>simp (disch:=omega) only [Sh.out h2,go_sem,seval]
   ·simp_all [Z3]
   ·refine (LR r.visits r.visits_c hl).use (Zi ?_);refine cD ?_ ?_<;>intro h3<;>simp (disch:=omega) only [Sh.out h3,go_sem,seval,↓reduceIte]
    ·simp_all [Z3,if_neg]
    ·refine (Bg x r.visits r.visits_c hl ho hin).use (Zi ?_);refine cD ?_ ?_<;>intro h4<;>simp (disch:=omega) only [Sh.out h4,go_sem,seval,↓reduceIte]
     ·simp_all [Z3,if_neg]
     ·have h4':r.visits.all (pairB x.orders r.visits)=true:=by grind
      have hc:Z3 x r.visits=if (x.apart.any fun p=>Xx r.visits p.1&&Xx r.visits p.2)=true then 20 else if (x.before.any fun p=> !Yk r.visits p.1 p.2)=true then 21 else 0:=by
       rw [Z3,if_neg c1,if_neg (by grind),if_neg (by grind),if_neg (by grind)]
      clear h4 h4' h3 h2 c1 h1' h1 h0;refine Zl [2,5,33,34] (fun k:Nat=> [(35,.p (.int .i64 k))]) (fun _=> [Zj x,Zy r]) (fun k=>k<=x.apart.length/\ ∀j,j<k->(Xx r.visits (nth x.apart j).1&&Xx r.visits (nth x.apart j).2)=false) (fun k=>x.apart.length-k) 0 Zb (Weak.mk ?_) ?_
      ·simp (disch:=omega) only [Zj,Zy,go_sem,seval]
      ·rintro k ⟨hk,hno⟩;refine J2 ?_;refine cD ?_ ?_<;>intro h<;>simp (disch:=omega) only [Sh.out h,go_sem,seval,↓reduceIte]
       ·have hk2:k<x.apart.length:=Za
        refine (V5 r.visits r.visits_c (nth x.apart k).1 hl).use (Zi ?_);refine aF ?_ ?_<;>intro h2
        ·refine (V5 r.visits r.visits_c (nth x.apart k).2 hl).use (Zi ?_);refine XQ ?_ ?_<;>intro h3
         ·rw [hc,if_pos (CV hk2 (by grind))]
         ·exact ⟨k+1,⟨Za,Zo.2 ⟨hno,by grind⟩⟩,Za,wk⟩
        ·exact ⟨k+1,⟨Za,Zo.2 ⟨hno,by simp [h2]⟩⟩,Za,wk⟩
       ·have hkl:k=x.apart.length:=Za
        subst hkl;rw [hc,Fl hno];clear hno hk h hc;rw [if_neg Zb];refine Zl [5,51,52] (fun k:Nat=> [(53,.p (.int .i64 k))]) (fun _=> [Zj x,Zy r]) (fun k=>k<=x.before.length/\ ∀j,j<k->(!Yk r.visits (nth x.before j).1 (nth x.before j).2)=false) (fun k=>x.before.length-k) 0 Zb (Weak.mk ?_) ?_
        ·simp (disch:=omega) only [Zj,Zy,go_sem,seval]
        ·rintro k ⟨hk,hno⟩;refine J2 ?_;refine cD ?_ ?_<;>intro h<;>simp (disch:=omega) only [Sh.out h,go_sem,seval,↓reduceIte]
         ·have hk2:k<x.before.length:=Za
          refine (Bf r.visits r.visits_c (nth x.before k).1 (nth x.before k).2 hl).use (Zi ?_);refine XQ ?_ ?_<;>intro h2
          ·have h3:(!Yk r.visits (nth x.before k).1 (nth x.before k).2)=true:=Za
           rw [if_pos (CV hk2 h3)]
          ·have h3:(!Yk r.visits (nth x.before k).1 (nth x.before k).2)=false:=Za
           exact ⟨k+1,⟨Za,Zo.2 ⟨hno,h3⟩⟩,Za,wk⟩
         grind [Fl]
@[go_sem] theorem fM {H:List AM.Obj} {n cs cs'} :Ja H n (.tup cs) (.tup cs')=(cs'=cs/\ZA n cs=true):=by simp [Ja,HU,refB]
@[go_sem] theorem Cs {a b:V} :WQ [a,b]= .tup [a,b]:=Eq.trans rfl rfl
theorem V9 {g:FuncId} {args:List V} {a b:PV} {H:List AM.Obj} {K:V->List AM.Obj->Prop} (h:ACalls Tryz.prog g args [] fun x H'=>x= .tup [.p a,.p b]/\H'= []) (k:K (.tup [.p a,.p b]) H) (ha:ZA 0 args=true:=by rfl):ACalls Tryz.prog g args H K :=
 (h.behind ha H).mono fun x H' hq=>by
  obtain ⟨y,H1,⟨rfl,rfl⟩,rfl,rfl⟩:=hq
  grind [Bh,Wu]
def Yn (l:List Vis):Nat:=l.foldl (fun s v=>s|||pw v.order.toNat) 0
def HV (v:Vis):Bool:=decide (0<=v.order/\v.order<=62)
theorem JR {l:List Vis} {k:Nat} (hk:k<l.length):Yn (l.take (k+1))=Yn (l.take k)|||pw (nth l k).order.toNat:=by
 grind [List.take_succ_eq_append_getElem,Yn,Zh]
theorem DB : ∀(k:Nat) {l:List Vis},k<=l.length->(∀v∈l.take k,HV v=true)->Yn (l.take k)<9223372036854775808
 | 0,l,_,_=>by simp [Yn]
 | k+1,l,hk,h=>by
  have hk2:k<l.length:=Za
  have ih:=DB k (l:=l) Za fun v hv=>h v (List.take_subset_take_left l Za hv);have hv:=h (nth l k) (by rw [Zh hk2];exact List.mem_iff_getElem.2 ⟨k,by simp;omega,Zb⟩);simp only [HV,decide_eq_true_eq] at hv;have h2:pw (nth l k).order.toNat<=pw 62:=Hf Za;have h3:=He;rw [JR hk2];exact Nat.or_lt_two_pow (n:=63) Za Za
def KE (l:List Vis):Int×Int:=if l.all HV=true then (((Yn l:Nat):Int),0) else (0,2)
theorem WT (r:Rte) (hl:r.visits.length<=1048576):PT 121 [.p (XS r)] [.p (.int .i64 (KE r.visits).1),.p (.int .i64 (KE r.visits).2)]:=by
 refine Zd [] Tryz.func121 rfl NV ?_;simp (disch:=omega) only [Tryz.f121,go_sem,seval];refine Zl [8,9] (fun k:Nat=> [(4,.p (.int .i64 (Yn (r.visits.take k):Nat))),(10,.p (.int .i64 k))]) (fun _=> [Zy r]) (fun k=>k<=r.visits.length/\ ∀j,j<k->HV (nth r.visits j)=true) (fun k=>r.visits.length-k) 0 Zb (Weak.mk ?_) ?_
 ·simp (disch:=omega) only [Zy,Yn,List.take_zero,List.foldl_nil,go_sem,seval]
 ·rintro k ⟨hk,hno⟩
  have hlt:=DB k hk fun v hv=>by
   obtain ⟨j,hj,rfl⟩:=List.mem_iff_getElem.1 hv
   grind [Zh]
  simp (disch:=omega) only [Zy,go_sem,seval];refine cD ?_ ?_<;>intro h<;>simp (disch:=omega) only [Sh.out h,go_sem,seval,↓reduceIte]
  ·have hk2:k<r.visits.length:=Za
   have hbad:HV (nth r.visits k)=false->KE r.visits=(0,2):=fun h4=>by
    grind [Xe,KE]
   have hs:=JR hk2
   have hp:(nth r.visits k).order<=62->pw (nth r.visits k).order.toNat<=4611686018427387904:=fun h=>by rw [<- He];exact Hf Za
   refine gF ?_ ?_<;>intro h1<;>simp (disch:=omega) only [Sh.out h1,go_sem,seval,↓reduceIte]
   ·have e:=hbad (by simp [HV];omega);rw [e];exact we
   ·refine XQ ?_ ?_<;>intro h2
    ·have e:=hbad (by simp [HV];omega);rw [e];exact we
    ·exact ⟨k+1,⟨Za,Zo.2 ⟨hno,by simp [HV];omega⟩⟩,Za,Weak.mk (by simp (disch:=omega) only [hs,go_sem,seval])⟩
  ·have hkl:k=r.visits.length:=Za
   subst hkl
   have:r.visits.all HV=true:=by
    rw [List.all_eq_true];intro v hv;obtain ⟨j,hj,rfl⟩:=List.mem_iff_getElem.1 hv
    grind [Zh]
   have e:KE r.visits=(((Yn r.visits:Nat):Int),0):=by simp [KE,this]
   rw [e,List.take_length];exact we
def dn (v:Vis):Int:=if v.drp=true then 1 else 0
def oO (nx:List Vis->List Vis):Nat->List Vis->List (List Vis)->List (List Vis)×Bool
 | 0,l,outs=>(outs++ [l],decide (outs.length+1<=8192))
 | f+1,l,outs=>(nx l).foldl (fun acc v=>if acc.2=true then oO nx f (l++ [v]) acc.1 else acc) (outs,true)
def Plc (x:Inst):Prop:= ∀o∈x.orders,-1<=o.pick.place/\ -1<=o.drp.place
theorem Ua {l:List Vis} {v:Vis} :0<=vIx l v↔v∈l:=by
 grind [FX,vIx]
def Vne (x:Inst):Prop:= ∀i,i<x.orders.length->Ya x.orders i≠ []
def ext (nx:List Vis->List Vis):Nat->List Vis->List (List Vis)->List (List Vis)
 | 0,l,outs=>if 8192<outs.length then outs else outs++ [l]
 | f+1,l,outs=>if 8192<outs.length then outs else (nx l).foldl (fun acc v=>ext nx f (l++ [v]) acc) outs
structure IFacts (x:Inst):Prop where
 len:x.orders.length<=10
 plc:Plc x
 vne:Vne x
 val:Val x.orders.length x.before
 ne: ∀p∈x.before,p.1≠p.2
 aval:Val x.orders.length x.apart
theorem F8 {n:Int} {word:List UInt8} {sm:Int×Int->Int×Int->Bool} {l:List (Int×Int)} (h:NF n word sm l l.length= []): ∀p∈l,dF n p=true:=by
 intro p hp;obtain ⟨i,hi,rfl⟩:=List.mem_iff_getElem.1 hp;have h2:=(List.append_eq_nil_iff.1 h).2;rw [List.flatMap_eq_nil_iff] at h2;have h3:=h2 i (by grind)
 grind [pH,Zh]
theorem Et {x:Inst} (h:InstOk x):IFacts x:=by
 have ho:=h.orders;obtain ⟨h1,h2⟩:=List.append_eq_nil_iff.1 h.rules;have ha:=F8 h1;have hb:=F8 h2
 have hpl:Plc x:=fun o hm=>by
  obtain ⟨i,hi,rfl⟩:=List.mem_iff_getElem.1 hm;have:=ho.2 i hi;rw [<- Zh hi];exact ⟨this.pick.1,this.drp.1⟩
 have val: ∀l:List (Int×Int),(∀p∈l,dF x.orders.length p=true)->Val x.orders.length l:=fun l h p hp=>by
  grind [dF]
 refine ⟨ho.1,hpl,fun i hi=> ?_,val _ hb,fun p hp=> ?_,val _ ha⟩
 ·have h3:=ho.2 i hi;have h4:=hpl _ (Xe hi);have h5:=h3.one
  grind [Ya]
 grind [dF]
theorem WE {l:List Vis} {o:Int} :Xx l o=true↔ ∃v∈l,v.order=o:=by simp [Xx]
theorem QS : ∀(l:List Vis) (i:Nat),(Yn l).testBit i=true↔ ∃v∈l,v.order.toNat=i:=by
 have key: ∀(l:List Vis) (s i:Nat),(l.foldl (fun s v=>s|||pw v.order.toNat) s).testBit i=true↔s.testBit i=true\/ ∃v∈l,v.order.toNat=i:=by
  intro l
  induction l with
  | nil=>simp
  | cons v l ih =>
   intro s i;rw [List.foldl_cons,ih,Nat.testBit_or,CH,Bool.or_eq_true,decide_eq_true_eq,or_assoc];simp
 grind [Yn]
def Inr (x:Inst) (l:List Vis):Prop:= ∀v∈l,0<=v.order/\v.order<x.orders.length
theorem KN {l:List Vis} (hd:l.Nodup) {k:Nat} (hk:k<l.length):vIx l (nth l k)=(k:Int):=by
 refine B2 hk Zb fun j hj=> ?_
 grind [Zh,List.pairwise_iff_getElem]
theorem LU {l:List Vis} {v:Vis} (h:0<=vIx l v):(vIx l v).toNat<l.length/\nth l (vIx l v).toNat=v:=by
 grind [vIx,B1,List.findIdx?_eq_some_iff_getElem,Zh]
theorem Bn {l:List Vis} {v:Vis} {i:Nat} (h:v∈l.take i): ∃j,j<i/\j<l.length/\nth l j=v:=by
 obtain ⟨j,hj,rfl⟩:=List.mem_iff_getElem.1 h;simp at hj;exact ⟨j,Za,Za,by grind [Zh]⟩
theorem AN {l:List Vis} {i j:Nat} (h:j<i) (hl:j<l.length):nth l j∈l.take i:=by
 grind [Zh,List.mem_iff_getElem]
theorem CI {l:List Vis} :UL l=false↔l.Nodup:=by
 rw [UL,List.any_eq_false]
 constructor
 ·intro h;rw [List.nodup_iff_pairwise_ne,List.pairwise_iff_getElem];intro i j hi hj hij e;have:=h j (by grind);simp only [decide_eq_true_eq,Ua] at this;refine this ?_;rw [Zh hj,<- e,<- Zh hi];exact AN hij hi
 ·intro h j hj;simp only [decide_eq_true_eq,Ua]
  grind [Bn,KN]
def BC (x:Inst) (l:List Vis) (n i:Nat):Bool:=(l.take n).foldl (fun on v=>if v.order=(i:Int) then !v.drp else on) (decide ((nth x.orders i).pick.place<0))
theorem GU {x:Inst} {l:List Vis} {i:Nat} :BC x l 0 i=decide ((nth x.orders i).pick.place<0):=by simp [BC]
theorem QR {x:Inst} {l:List Vis} {n i:Nat} (h:n<l.length):BC x l (n+1) i=if (nth l n).order=(i:Int) then !(nth l n).drp else BC x l n i:=by
 grind [BC,List.take_succ_eq_append_getElem,Zh]
structure SqOk (x:Inst) (l:List Vis):Prop where
 ne:l≠ []
 inr:Inr x l
 nd:l.Nodup
 pair: ∀v∈l,pairB x.orders l v=true
theorem Wg {x:Inst} {l:List Vis} (h:Z3 x l=0):SqOk x l:=by
 unfold Z3 at h
 split at h
 ·simp at h
 ·rename_i h1
  split at h
  ·simp at h
  ·split at h
   ·simp at h
   ·rename_i h3
    split at h
    ·simp at h
    ·rename_i h4;refine ⟨fun e=>h1 (.inl (by simp [e])),fun v hv=> ?_,CI.1 (by grind),fun v hv=> ?_⟩
     ·grind [QU]
     grind
structure OwnV (x:Inst) (l:List Vis) (i:Nat):Prop where
 pick:0<=(nth x.orders i).pick.place->(⟨i,false⟩:Vis)∈l
 drp:0<=(nth x.orders i).drp.place->(⟨i,true⟩:Vis)∈l
 both:0<=(nth x.orders i).pick.place->0<=(nth x.orders i).drp.place->vIx l ⟨i,false⟩<vIx l ⟨i,true⟩
 isP:(⟨i,false⟩:Vis)∈l->0<=(nth x.orders i).pick.place
 isD:(⟨i,true⟩:Vis)∈l->0<=(nth x.orders i).drp.place
theorem SqOk.own {x:Inst} {l:List Vis} (h:SqOk x l) {i:Nat} (hi: ∃v∈l,v.order=(i:Int)):OwnV x l i:=by
 obtain ⟨v0,hv0,ho⟩:=hi
 have key: ∀v∈l,v.order=(i:Int)->v∈Ya x.orders i/\Uf l (-1) (Ya x.orders i)=true:=fun v hv hvo=>by
  have:=h.pair v hv;simp only [pairB,hvo,Int.toNat_natCast,Bool.and_eq_true,decide_eq_true_eq] at this;exact ⟨Ua.1 this.1,this.2⟩
 obtain ⟨_,hasc⟩:=key v0 hv0 ho;have mem: ∀b:Bool,(⟨i,b⟩:Vis)∈l->(⟨i,b⟩:Vis)∈Ya x.orders i:=fun b hb=>(key _ hb rfl).1
 have hp:(⟨i,false⟩:Vis)∈Ya x.orders i->0<=(nth x.orders i).pick.place:=fun hm=>by
  unfold Ya at hm
  grind
 have hd:(⟨i,true⟩:Vis)∈Ya x.orders i->0<=(nth x.orders i).drp.place:=fun hm=>by
  unfold Ya at hm
  grind
 have m1: ∀v,-1<vIx l v->v∈l:=fun v hv=>Ua.1 Za;unfold Ya at hasc
 by_cases c1:0<=(nth x.orders i).pick.place<;>by_cases c2:0<=(nth x.orders i).drp.place
 ·simp only [c1,c2,if_true,List.cons_append,List.nil_append,Uf,Bool.and_true,Bool.and_eq_true,decide_eq_true_eq] at hasc;exact ⟨fun _=>m1 _ hasc.1,fun _=>m1 _ Za,fun _ _=>hasc.2,fun _=>c1,fun _=>c2⟩
 ·simp only [c1,c2,if_true,if_false,List.append_nil,Uf,Bool.and_true,decide_eq_true_eq] at hasc;exact ⟨fun _=>m1 _ hasc,fun h=>absurd h c2,fun _ h=>absurd h c2,fun _=>c1,fun hm=>hd (mem _ hm)⟩
 ·simp only [c1,c2,if_true,if_false,List.nil_append,Uf,Bool.and_true,decide_eq_true_eq] at hasc;exact ⟨fun h=>absurd h c1,fun _=>m1 _ hasc,fun h=>absurd h c1,fun hm=>hp (mem _ hm),fun _=>c2⟩
 ·exact ⟨fun h=>absurd h c1,fun h=>absurd h c2,fun h=>absurd h c1,fun hm=>hp (mem _ hm),fun hm=>hd (mem _ hm)⟩
theorem Y2 {l:List Vis} (hn:l.Nodup) {v:Vis} {n:Nat} :v∈l.take n↔0<=vIx l v/\vIx l v<(n:Int):=by
 constructor
 ·intro h;obtain ⟨j,h1,h2,rfl⟩:=Bn h
  grind [KN]
 ·intro ⟨h1,h2⟩;obtain ⟨h3,h4⟩:=LU h1
  grind [AN]
theorem GT {x:Inst} {l:List Vis} (h:SqOk x l) (i:Nat): ∀n,n<=l.length->BC x l n i=if (⟨i,true⟩:Vis)∈l.take n then false else if (⟨i,false⟩:Vis)∈l.take n then true else decide ((nth x.orders i).pick.place<0)
 | 0,_=>by simp [BC]
 | n+1,hn=>by
  have hk:n<l.length:=Za
  have hat:=KN h.nd hk;rw [QR hk,GT h i n Za]
  by_cases c:(nth l n).order=(i:Int)
  ·rw [if_pos c];have ho:=h.own (i:=i) ⟨nth l n,Xe hk,c⟩
   cases hd:(nth l n).drp with
   | true =>
    have hv:nth l n=⟨i,true⟩:=by rw [<- c,<- hd]
    rw [hv] at hat;have:(⟨i,true⟩:Vis)∈l.take (n+1):=(Y2 h.nd).2 Za;rw [if_pos this];rfl
   | false =>
    have hv:nth l n=⟨i,false⟩:=by rw [<- c,<- hd]
    rw [hv] at hat;have h1:(⟨i,false⟩:Vis)∈l.take (n+1):=(Y2 h.nd).2 Za
    have h2: ¬(⟨i,true⟩:Vis)∈l.take (n+1):=fun hm=>by
     have h3:=List.mem_of_mem_take hm;have h4:=(Y2 h.nd).1 hm;have h5:=ho.both (ho.isP (List.mem_of_mem_take h1)) (ho.isD h3);omega
    rw [if_neg h2,if_pos h1];rfl
  ·rw [if_neg c]
   have e: ∀b:Bool,((⟨i,b⟩:Vis)∈l.take (n+1))=((⟨i,b⟩:Vis)∈l.take n):=fun b=>by
    rw [List.take_succ_eq_append_getElem hk,List.mem_append,<- Zh hk];refine propext ⟨fun hm=>hm.resolve_right fun hm=> ?_,.inl⟩;simp at hm;exact c (by rw [<- hm])
   simp only [e]
theorem Pl {x:Inst} {l:List Vis} (h:SqOk x l) {k i:Nat} (hk:k<l.length) (hi:(nth l k).order=(i:Int)):BC x l k i=(nth l k).drp:=by
 have hat:=KN h.nd hk;have ho:=h.own (i:=i) ⟨nth l k,Xe hk,hi⟩;have hm:=Xe hk;rw [GT h i k Za]
 cases hd:(nth l k).drp with
 | true =>
  have hv:nth l k=⟨i,true⟩:=by rw [<- hi,<- hd]
  rw [hv] at hat hm
  have h1: ¬(⟨i,true⟩:Vis)∈l.take k:=fun hm=>by have:=(Y2 h.nd).1 hm;omega
  rw [if_neg h1]
  by_cases c:0<=(nth x.orders i).pick.place
  ·have h2:=ho.both c (ho.isD hm);have h3:(⟨i,false⟩:Vis)∈l.take k:=(Y2 h.nd).2 ⟨Ua.2 (ho.pick c),Za⟩
   grind
  grind
 | false =>
  have hv:nth l k=⟨i,false⟩:=by rw [<- hi,<- hd]
  rw [hv] at hat hm;have hp:=ho.isP hm
  have h1: ¬(⟨i,false⟩:Vis)∈l.take k:=fun hm=>by have:=(Y2 h.nd).1 hm;omega
  grind
theorem LN {f g:Nat->Int} {i:Nat} (h: ∀q,q≠i->f q=g q): ∀n,i<n->((List.range n).map f).sum=((List.range n).map g).sum+(f i-g i):=by
 have same: ∀n,n<=i->((List.range n).map f).sum=((List.range n).map g).sum:=fun n hn=>by
  grind [List.map_congr_left]
 intro n
 induction n with
 | zero=>omega
 | succ n ih =>
  intro hi;simp only [List.range_succ,List.map_append,List.map_cons,List.map_nil,List.sum_append,List.sum_cons,List.sum_nil]
  grind
theorem DK {f:Nat->Int} {b:Int} (hb:0<=b) (h: ∀q,0<=f q/\f q<=b): ∀n:Nat,0<=((List.range n).map f).sum/\((List.range n).map f).sum<=b*n
 | 0=>Zb
 | n+1=>by
  have ih:=DK hb h n
  grind [List.range_succ]
theorem VB {p:Nat->Bool} {f:Nat->Int} : ∀l:List Nat,((l.filter p).map f).sum=(l.map fun i=>if p i=true then f i else 0).sum
 | []=>rfl
 | a::l=>by
  rw [List.filter_cons,List.map_cons,List.sum_cons]
  by_cases h:p a=true
  ·rw [if_pos h,List.map_cons,List.sum_cons,VB l,if_pos h]
  ·rw [if_neg h,VB l,if_neg h];omega
def Q7 (x:Inst) (l:List Vis) (n j:Nat):Int:=((List.range x.orders.length).map fun i=>if (BC x l n i&&Xx l i)=true then nth (nth x.orders i).load j else 0).sum
theorem J3 {x:Inst} {l:List Vis} (h:SqOk x l) {k j:Nat} (hk:k<l.length):Q7 x l (k+1) j=if (nth l k).drp=true then Q7 x l k j-nth (nth x.orders (nth l k).order.toNat).load j else Q7 x l k j+nth (nth x.orders (nth l k).order.toNat).load j:=by
 obtain ⟨v1,v2⟩:=h.inr _ (Xe hk);obtain ⟨i,hi⟩: ∃i:Nat,(nth l k).order=(i:Int):=⟨(nth l k).order.toNat,Za⟩;have hh:Xx l (i:Int)=true:=WE.2 ⟨_,Xe hk,hi⟩;have h1:=Pl h hk hi
 have h2:BC x l (k+1) i= !(nth l k).drp:=by simp_all [QR]
 unfold Q7
 rw [LN (f:=fun i=>if (BC x l (k+1) i&&Xx l i)=true then nth (nth x.orders i).load j else 0) (g:=fun i=>if (BC x l k i&&Xx l i)=true then nth (nth x.orders i).load j else 0) (i:=i) (fun q hq=>by
  have:BC x l (k+1) q=BC x l k q:=by rw [QR hk,if_neg Za]
  grind) x.orders.length Za]
 grind
def Yb (x:Inst) (l:List Vis) (n:Nat):List Int:=(List.range (dimsOf x.types).toNat).map fun j=>Q7 x l n j
def Qe (a b:List Int):List Int:=(List.range a.length).map fun j=>nth a j+nth b j
def LM (a b:List Int):List Int:=(List.range a.length).map fun j=>nth a j-nth b j
theorem K1 {x:Inst} {l:List Vis} {n:Nat} :(Yb x l n).length=(dimsOf x.types).toNat:=by simp [Yb]
theorem Y1 {f:Nat->Int} {n j:Nat} (h:j<n):nth ((List.range n).map f) j=f j:=by
 grind [Zh]
theorem DX {x:Inst} {l:List Vis} (h:SqOk x l) {k:Nat} (hk:k<l.length):Yb x l (k+1)=if (nth l k).drp=true then LM (Yb x l k) (nth x.orders (nth l k).order.toNat).load else Qe (Yb x l k) (nth x.orders (nth l k).order.toNat).load:=by
 have key: ∀g:Nat->Int,(∀j,j<(dimsOf x.types).toNat->Q7 x l (k+1) j=g j)->Yb x l (k+1)=(List.range (dimsOf x.types).toNat).map g:=fun g hg =>
  List.map_congr_left fun j hj=>hg j (List.mem_range.1 hj)
 split
 ·simp_all [LM,J3,Yb,Y1]
 simp_all [Qe,J3,Yb,Y1]
def Zv (p:Pln):AM.Obj:= .cells [.p (.list p.routes_c (p.routes.map XS)),.p (.list p.unserved_c (p.unserved.map eI))]
def UH (r:Rte):Prop:=r.visits.length<=1048576/\r.rests.length<=1048576
def UJ (l:List Pt) (t:Int) (i:Nat):Bool:=decide ((nth l i).t<=t)&&decide (t<(nth l (i+1)).t)
def Cy (p q:Pt) (t:Int):Int:=p.a+((t-p.t)*(q.a-p.a)+q.t-p.t-1) / (q.t-p.t)
def Vp (l:List Pt) (t:Int):Int:=match (List.range (l.length-1)).find? (UJ l t) with
 | some i=>Cy (nth l i) (nth l (i+1)) t
 | none=>if (nth l 0).t<t then t+(nth l (l.length-1)).a-(nth l (l.length-1)).t else t+(nth l 0).a-(nth l 0).t
theorem CX {l:List Pt} {t:Int} {i:Nat} (hi:i+1<l.length) (hno: ∀j,j<i->UJ l t j=false) (h:UJ l t i=true):Vp l t=Cy (nth l i) (nth l (i+1)) t:=by
 have:(List.range (l.length-1)).find? (UJ l t)=some i:=by
  grind [List.find?_eq_some_iff_getElem]
 rw [Vp,this]
theorem Kh {l:List Pt} {t:Int} (hno: ∀j,j+1<l.length->UJ l t j=false):Vp l t=if (nth l 0).t<t then t+(nth l (l.length-1)).a-(nth l (l.length-1)).t else t+(nth l 0).a-(nth l 0).t:=by
 grind [Vp]
theorem Be {p q:Pt} {t:Int} (h1:p.t<=t) (h2:t<q.t) (hp:0<=p.t) (hq:q.t<=4096) (ha:p.a<=q.a) (hpa:0<=p.a) (hqa:q.a<=8192):0<=(t-p.t)*(q.a-p.a)/\(t-p.t)*(q.a-p.a)<=33554432:=by
 refine ⟨Int.mul_nonneg Za Za,?_⟩;have:(t-p.t)*(q.a-p.a)<=4096*8192:=Int.mul_le_mul Za Za Za Za;omega
theorem Zp {α:Type} [Inhabited α] {l:List α} {i:Nat} (h:i<l.length):nth l i∈l:=by grind [Zh]
def MZ (a:Arc):Prop:=Wp a.travel/\a.slow.length<=16/\ ∀p∈a.slow,0<=p.t/\p.t<=4096/\0<=p.a/\p.a<=4096
def Vl (l:List Pt) (t:Int) (k:Nat):Int:=(l.take k).foldl (fun s p=>if p.t<=t then s+p.a else s) 0
def Fq (a:Arc) (t:Int):Int:=Vp a.travel t+Vl a.slow t a.slow.length
theorem Q4 {l:List Pt} {t:Int} {k:Nat} (h:k<l.length):Vl l t (k+1)=if (nth l k).t<=t then Vl l t k+(nth l k).a else Vl l t k:=by
 grind [Vl,List.take_succ_eq_append_getElem,Zh]
theorem UK {l:List Pt} {t:Int} (hl: ∀p∈l,0<=p.a/\p.a<=4096): ∀k,k<=l.length->0<=Vl l t k/\Vl l t k<=4096*k
 | 0,_=>by simp [Vl]
 | k+1,h=>by
  have ih:=UK (t:=t) hl k Za
  grind [Zp,Q4]
theorem K7 {l:List Pt} {t:Int} (hl:Wp l) (ht:0<=t/\t<=1073741824):0<=Vp l t/\Vp l t<=1107304448:=by
 obtain ⟨⟨hl1,hl2⟩,hpt⟩:=hl;unfold Vp
 split
 ·rename_i i hi;have hm:=List.mem_of_find?_eq_some hi;have hs:=List.find?_some hi;simp at hm;simp only [UJ,Bool.and_eq_true,decide_eq_true_eq] at hs;obtain ⟨⟨p1,p2,p3,p4⟩,_⟩:=hpt i Za;obtain ⟨⟨q1,q2,q3,q4⟩,q5⟩:=hpt (i+1) Za;obtain ⟨r1,r2⟩:=q5 Za;rw [Nat.add_sub_cancel] at r1 r2;obtain ⟨s1,s2⟩:=Be hs.1 hs.2 p1 q2 r2 Za Za;have d1:0<=((t-(nth l i).t)*((nth l (i+1)).a-(nth l i).a)+(nth l (i+1)).t-(nth l i).t-1) / ((nth l (i+1)).t-(nth l i).t):=Int.ediv_nonneg Za Za;have d2:((t-(nth l i).t)*((nth l (i+1)).a-(nth l i).a)+(nth l (i+1)).t-(nth l i).t-1) / ((nth l (i+1)).t-(nth l i).t)<=33558528:=Int.le_trans (Int.ediv_le_self _ Za) Za
  unfold Cy;omega
 ·obtain ⟨⟨p1,p2,p3,p4⟩,_⟩:=hpt 0 Za;obtain ⟨⟨q1,q2,q3,q4⟩,_⟩:=hpt (l.length-1) Za;omega
theorem HF {g:FuncId} {args:List V} {a b c:PV} {H:List AM.Obj} {K:V->List AM.Obj->Prop} (h:ACalls Tryz.prog g args [] fun x H'=>x= .tup [.p a,.p b,.p c]/\H'= []) (k:K (.tup [.p a,.p b,.p c]) H) (ha:ZA 0 args=true:=by rfl):ACalls Tryz.prog g args H K :=
 (h.behind ha H).mono fun x H' hq=>by
  obtain ⟨y,H1,⟨rfl,rfl⟩,rfl,rfl⟩:=hq
  grind [Bh,Wu]
theorem XI {g:FuncId} {args:List V} {a b:PV} {H:List AM.Obj} {K:V->List AM.Obj->Prop} (h:ACalls Tryz.prog g args [] fun x H'=>x= .tup [.p a,.p b]/\H'= []) (k:K (.tup [.p a,.p b]) H) (ha:ZA 0 args=true:=by rfl):ACalls Tryz.prog g args H K :=
 (h.behind ha H).mono fun x H' hq=>by
  obtain ⟨y,H1,⟨rfl,rfl⟩,rfl,rfl⟩:=hq
  grind [Bh,Wu]
def QW (n:Net) (p:Int):Bool:=decide (0<=p)&&decide (p<(n.places.length:Int))
def Wk (pr f t:Int) (a:Arc):Bool:=decide (a.src=f)&&decide (a.dst=t)&&decide (a.prof=pr)
def W8 : Arc:=⟨0,0,0,0,true,[],true,[]⟩
def Yh (n:Net) (pr f t:Int):Arc×Bool:=match n.arcs.find? (Wk pr f t) with | some a=>(a,true) | none=>(W8,false)
theorem F1 {n:Net} {pr f t:Int} {k:Nat} (hk:k<n.arcs.length) (hno: ∀j,j<k->Wk pr f t (nth n.arcs j)=false) (h:Wk pr f t (nth n.arcs k)=true):Yh n pr f t=(nth n.arcs k,true):=by
 have:n.arcs.find? (Wk pr f t)=some (nth n.arcs k):=by
  grind [List.find?_eq_some_iff_getElem,Zh]
 rw [Yh,this]
theorem F2 {n:Net} {pr f t:Int} (hno: ∀j,j<n.arcs.length->Wk pr f t (nth n.arcs j)=false):Yh n pr f t=(W8,false):=by
 have:n.arcs.find? (Wk pr f t)=none:=by
  rw [List.find?_eq_none];intro a ha;obtain ⟨j,hj,rfl⟩:=List.mem_iff_getElem.1 ha
  grind [Zh]
 rw [Yh,this]
def KS (n:Net) (pr f t τ:Int):Int×Int×Int :=
 if (QW n f&&QW n t)=false then (0,0,11) else if f=t then (τ,0,0) else if (Yh n pr f t).2=true then (Fq (Yh n pr f t).1 τ,(Yh n pr f t).1.miles,0) else (0,0,12)
def netR (n:Net):Prop:=n.places.length<=1048576/\n.arcs.length<=1048576/\ ∀a∈n.arcs,MZ a
theorem Jz {n:Net} {pr f t:Int} (h:(Yh n pr f t).2=true):(Yh n pr f t).1∈n.arcs:=by
 grind [Yh]
theorem C9 {n:Nat} (h:n<10):dec n= [UInt8.ofNat (48+n)]:=by rw [dec,dif_pos h]
theorem IC {n:Nat} (h:10<=n) (h2:n<100):dec n= [UInt8.ofNat (48+n / 10),UInt8.ofNat (48+n%10)]:=by
 rw [dec,dif_neg Za,C9 Za];rfl
theorem K8 {s:List UInt8} {k k':IntKind} {a b:Int} (h:0<=a/\a<=b/\b<=(s.length:Int)):Ug (some .string) s (.p (.int k a)) (.p (.int k' b))=some (.p (.str ((s.take b.toNat).drop a.toNat))):=by
 simp_all [Ug]
def digT : List UInt8:=(List.range 36).map fun i=>UInt8.ofNat (if i<10 then 48+i else 87+i)
def smalT : List UInt8:=(List.range 100).flatMap fun i=> [UInt8.ofNat (48+i / 10),UInt8.ofNat (48+i%10)]
theorem ID : ∀n,n<10->(digT.take (n+1)).drop n= [UInt8.ofNat (48+n)]:=by decide
theorem HA : ∀n,n<100->(smalT.take (2*n+2)).drop (2*n)= [UInt8.ofNat (48+n / 10),UInt8.ofNat (48+n%10)]:=by decide+kernel
theorem LI (n:Nat) (hn:n<100):PC 202 [.p (.int .i64 (n:Int))] (.str (dec n)):=by
 refine Zc Tryz.func202 rfl OE ?_;simp (disch:=omega) only [Tryz.f202,go_sem,seval];refine cD ?_ ?_<;>intro h<;>simp (disch:=omega) only [Sh.out h,go_sem,seval]
 ·rw [C9 Za,K8 (by simp;omega)]
  have e1:((n:Int)+1).toNat=n+1:=Za
  have e2:((n:Int)).toNat=n:=Za
  rw [e1,e2];refine (congrArg (fun z=>JS (some (V.p (PV.str z))) _) (ID n Za)).mpr ?_;simp (disch:=omega) only [go_sem,seval]
 ·rw [IC Za hn,K8 (by simp;omega)]
  have e1:((n:Int)*2+2).toNat=2*n+2:=Za
  have e2:((n:Int)*2).toNat=2*n:=Za
  rw [e1,e2];refine (congrArg (fun z=>JS (some (V.p (PV.str z))) _) (HA n Za)).mpr ?_;simp (disch:=omega) only [go_sem,seval]
theorem Ga (n:Nat) (hn:n<100):PC 167 [.p (.int .i64 (n:Int)),.p (.int .i64 10)] (.str (dec n)):=by
 refine Zc Tryz.func167 rfl Od ?_
 have h0:(0:Int)<=(n:Int):=Za
 have h1:(n:Int)<100:=Za
 simp (disch:=omega) only [Tryz.f167,h0,h1,go_sem,seval];refine (LI n hn).use ?_;simp (disch:=omega) only [go_sem,seval]
theorem IZ (n:Nat) (hn:n<100):PC 122 [.p (.int .i64 (n:Int))] (.str (dec n)):=by
 refine Zc Tryz.func122 rfl NW ?_;simp (disch:=omega) only [Tryz.f122,go_sem,seval];refine (Ga n hn).use ?_;simp (disch:=omega) only [go_sem,seval]
theorem Pa (n:Nat) (hn:n<100):PC 89 [.p (.int .i64 (n:Int))] (.str (dec n)):=by
 refine Zc Tryz.func89 rfl Ms ?_;simp (disch:=omega) only [Tryz.f89,go_sem,seval];refine (IZ n hn).use ?_;simp (disch:=omega) only [go_sem,seval]
theorem Bv (n a b:Int):PC 249 [.p (.int .i64 n),.p (.int .i64 a),.p (.int .i64 b)] (.bool (decide (a<=n)&&decide (n<=b))):=by
 refine Zc Tryz.func249 rfl O3 ?_;simp (disch:=omega) only [Tryz.f249,go_sem,seval]
 repeat' (first | (refine gT ?_ ?_<;>intro hq<;>simp (disch:=omega) only [Sh.out hq,go_sem,seval,↓reduceIte]) | (refine K2 (fun hq=> ?_) (fun hq=> ?_)<;>(try simp only [decide_eq_true_eq,decide_eq_false_iff_not,Classical.not_not] at hq)<;>simp (disch:=omega) only [Sh.out hq,go_sem,seval]) | (refine Kb (fun hq=> ?_) (fun hq=> ?_)<;>(try simp only [decide_eq_true_eq,decide_eq_false_iff_not,Classical.not_not] at hq)<;>simp (disch:=omega) only [Sh.out hq,go_sem,seval]))
 all_goals (simp;first | done | omega)
theorem G1 (l:List Pt) (c:Bool) (hl:Wp l):PC 252 [.p (.list c (l.map Ej))] (.list true []):=by
 obtain ⟨⟨hl1,hl2⟩,hpt⟩:=hl;refine Zc Tryz.func252 rfl O6 ?_
 have e1: ¬(l.length:Int)=0:=Za
 have e2: ¬(16:Int)<(l.length:Int):=Za
 simp (disch:=omega) only [Tryz.f252,e1,e2,go_sem,seval];refine Zl [0,19,20] (fun k:Nat=> [(3,.p (.list true [])),(21,.p (.int .i64 k))]) (fun _=> []) (fun k=>k<=l.length) (fun k=>l.length-k) 0 Zb (Weak.mk ?_) ?_
 ·simp (disch:=omega) only [go_sem,seval,↓reduceIte]
 ·intro k hk;refine Zi ?_;refine cD ?_ ?_<;>intro h<;>simp (disch:=omega) only [Sh.out h,go_sem,seval,↓reduceIte]
  ·have hk2:k<l.length:=Za
   obtain ⟨⟨p1,p2,p3,p4⟩,q⟩:=hpt k hk2;refine (Pa k Za).use (Zi ?_);refine (Bv (nth l k).t 0 4096).use (Zi ?_);simp (disch:=omega) only [p1,p2,go_sem,seval];refine gF ?_ ?_<;>intro h3<;>simp (disch:=omega) only [Sh.out h3,go_sem,seval,↓reduceIte]
   ·omega
   ·refine cD ?_ ?_<;>intro h4<;>simp (disch:=omega) only [Sh.out h4,go_sem,seval,↓reduceIte]
    ·omega
    ·refine Yl (Zi ?_);refine gT ?_ ?_<;>intro h5<;>simp (disch:=omega) only [Sh.out h5,go_sem,seval,↓reduceIte]
     ·obtain ⟨r1,r2⟩:=q Za;refine gF ?_ ?_<;>intro h6<;>simp (disch:=omega) only [Sh.out h6,go_sem,seval,↓reduceIte]
      ·omega
      ·refine cD ?_ ?_<;>intro h7<;>simp (disch:=omega) only [Sh.out h7,go_sem,seval,↓reduceIte]
       ·omega
       ·exact ⟨k+1,Za,Za,wk⟩
     ·exact ⟨k+1,Za,Za,wk⟩
theorem C6 (p:Pt) (t:Int) (h:0<=p.t/\p.t<=4096) (ht:0<=t/\t<=1073741824):PC 254 [.p (Ej p),.p (.int .i64 t)] (.int .i64 (p.t-t)):=by
 refine Zc Tryz.func254 rfl O8 ?_;simp (disch:=omega) only [Tryz.f254,go_sem,seval,↓reduceIte]
theorem LA (l:List Pt) (c:Bool) (hl:Wp l):PC 250 [.p (.list c (l.map Ej))] (.bool true):=by
 refine Zc Tryz.func250 rfl O4 ?_;simp (disch:=omega) only [Tryz.f250,go_sem,seval];refine (G1 l c hl).use ?_;simp (disch:=omega) only [go_sem,seval]
structure PosT (l:List Pt) (t:Int) (i:Nat):Prop where
 le:i<=l.length
 lo: ∀j,j<i->(nth l j).t<t
 hi: ∀j,i<=j->j<l.length->t<=(nth l j).t
theorem T6 (l:List Pt) (c:Bool) (t:Int) (i:Nat) (hl:Wp l) (ht:0<=t/\t<=1073741824) (hi:PosT l t i):PT 253 [.p (.list c (l.map Ej)),.p (.int .i64 t),.fn (.func 254) [] []] [.p (.int .i64 (i:Int)),.p (.bool (decide (i<l.length)&&decide ((nth l i).t=t)))]:=by
 obtain ⟨⟨hl1,hl2⟩,hpt⟩:=hl;obtain ⟨hi1,hi2,hi3⟩:=hi;refine Zd [] Tryz.func253 rfl O7 ?_;simp (disch:=omega) only [Tryz.f253,go_sem,seval];refine Zl [0,1,2,8] (fun q:Nat×Nat=> [(9,.p (.int .i64 q.1)),(10,.p (.int .i64 q.2))]) (fun _=> []) (fun q=>q.1<=i/\i<=q.2/\q.2<=l.length) (fun q=>q.2-q.1) (0,l.length) (by simp;omega) (Weak.mk ?_) ?_
 ·simp (disch:=omega) only [go_sem,seval,↓reduceIte]
 ·rintro ⟨a,b⟩ ⟨h1,h2,h3⟩;simp only at h1 h2 h3;refine Zi ?_;refine cD ?_ ?_<;>intro h<;>simp (disch:=omega) only [Sh.out h,go_sem,seval,↓reduceIte]
  ·have hm:(a+b) / 2<l.length:=Za
   obtain ⟨⟨p1,p2,p3,p4⟩,q⟩:=hpt _ hm
   have hs:((a:Int)+(b:Int)).fdiv (2^min 1 64)=(((a+b) / 2:Nat):Int):=by
    grind
   have em:((((a+b) / 2:Nat)):Int).toNat=(a+b) / 2:=Za
   have hnb:((a+b) / 2<i)↔(nth l ((a+b) / 2)).t-t<0:=by
    grind
   rw [hs];refine Zi ?_;refine (C6 (nth l ((a+b) / 2)) t ⟨p1,p2⟩ ht).use (Zi ?_);refine cD ?_ ?_<;>intro h4<;>simp (disch:=omega) only [Sh.out h4,go_sem,seval,↓reduceIte]
   ·exact ⟨((a+b) / 2+1,b),⟨Za,h2,h3⟩,Za,wk⟩
   ·exact ⟨(a,(a+b) / 2),⟨h1,Za,Za⟩,Za,wk⟩
  ·have:a=i:=Za
   subst this;refine gT ?_ ?_<;>intro h4<;>simp (disch:=omega) only [Sh.out h4,go_sem,seval,↓reduceIte]
   ·have hm:a<l.length:=Za
    obtain ⟨⟨p1,p2,p3,p4⟩,q⟩:=hpt _ hm;refine (C6 (nth l a) t ⟨p1,p2⟩ ht).use (Zi ?_);have e5:((nth l a).t-t=0)=((nth l a).t=t):=propext Za;exact we (by simp (disch:=omega) only [e5,hm,go_sem,seval])
   ·have hm: ¬a<l.length:=Za
    exact we (by simp (disch:=omega) only [hm,go_sem,seval])
theorem VW {l:List Pt} (hl:Wp l) {k:Nat} (hk:k<l.length): ∀j,j<k->(nth l j).t<(nth l k).t:=by
 obtain ⟨_,hpt⟩:=hl
 induction k with
 | zero=>omega
 | succ k ih =>
  intro j hj;obtain ⟨_,q⟩:=hpt (k+1) hk
  grind
theorem Lv {l:List Pt} (hl:Wp l) (t:Int): ∃i,PosT l t i:=by
 have: ∀n,n<=l.length-> ∃i,i<=n/\(∀j,j<i->(nth l j).t<t)/\(i<n->t<=(nth l i).t):=by
  intro n
  induction n with
  | zero=>simp
  | succ n ih =>
   grind
 obtain ⟨i,h1,h2,h3⟩:=this l.length (Nat.le_refl _);refine ⟨i,h1,h2,fun j hj hjl=> ?_⟩;rcases Nat.lt_or_eq_of_le hj with h | h
 ·have:=VW hl hjl i h;omega
 grind
theorem Ie {l:List Pt} {t:Int} {i:Nat} (hl:Wp l) (h:PosT l t i) (hi:i<l.length) (e:(nth l i).t=t):Vp l t=(nth l i).a:=by
 by_cases g:i+1<l.length
 ·have m:=VW hl g i Za;rw [CX g (fun j hj=> ?_) (by grind [UJ]),Cy]
  ·rw [e,Int.sub_self,Int.zero_mul,Int.zero_add];rw [Int.ediv_eq_zero_of_lt Za Za];omega
  ·have:(nth l (j+1)).t<=t:=by
    rcases Nat.lt_or_eq_of_le (show j+1<=i by omega) with h1 | h1
    ·have:=h.lo _ h1;omega
    grind
   simp [UJ];omega
 ·have hi1:i=l.length-1:=Za
  rw [Kh (fun j hj=> ?_)]
  ·split
   ·grind
   ·have:i=0:=by
     by_cases g2:i=0
     ·exact g2
     ·have:=h.lo 0 Za;omega
    grind
  ·have:(nth l (j+1)).t<=t:=by
    rcases Nat.lt_or_eq_of_le (show j+1<=i by omega) with h1 | h1
    ·have:=h.lo _ h1;omega
    grind
   simp [UJ];omega
theorem Ig {l:List Pt} {t:Int} (hl:Wp l) (h:PosT l t 0) (e: ¬(nth l 0).t=t):Vp l t=t+(nth l 0).a-(nth l 0).t:=by
 have h0:=h.hi 0 (Nat.le_refl _) hl.1.1;rw [Kh (fun j hj=> ?_),if_neg Za]
 have:t<(nth l j).t:=by
  by_cases g:j=0
  ·grind
  ·have:=VW hl (show j<l.length by omega) 0 Za;omega
 simp [UJ];omega
theorem If {l:List Pt} {t:Int} (h:PosT l t l.length) (hl:0<l.length):Vp l t=t+(nth l (l.length-1)).a-(nth l (l.length-1)).t:=by
 rw [Kh (fun j hj=> ?_),if_pos (h.lo 0 hl)];have:=h.lo (j+1) hj;simp [UJ];omega
theorem Fs {l:List Pt} {t:Int} {i:Nat} (h:PosT l t i) (h0:0<i) (hi:i<l.length) (e: ¬(nth l i).t=t):Vp l t=Cy (nth l (i-1)) (nth l i) t:=by
 have e1:i-1+1=i:=Za
 have h1:=h.lo (i-1) Za;have h2:=h.hi i (Nat.le_refl _) hi;have:=CX (l:=l) (t:=t) (i:=i-1) Za (fun j hj=>by have:=h.lo (j+1) Za;simp [UJ];omega) (by grind [UJ]);rw [this,e1]
theorem J1 {p q:Pt} {t:Int} (h1:p.t<=t) (h2:t<q.t) (hp:0<=p.t) (hq:q.t<=4096) (ha:p.a<=q.a) (hpa:0<=p.a) (hqa:q.a<=8192) :
  IntKind.i64.wrap (p.a+IntKind.i64.wrap ((IntKind.i64.wrap (IntKind.i64.wrap (IntKind.i64.wrap ((t-p.t)*(q.a-p.a))+(q.t-p.t))-1)).tdiv (q.t-p.t)))=Cy p q t:=by
 have hm:=Be h1 h2 hp hq ha hpa hqa;unfold Cy;generalize hM:(t-p.t)*(q.a-p.a)=m at hm
 have hd:0<=(m+(q.t-p.t)-1) / (q.t-p.t)/\(m+(q.t-p.t)-1) / (q.t-p.t)<=m+(q.t-p.t)-1:=by
  refine ⟨Int.ediv_nonneg Za Za,Int.ediv_le_self _ Za⟩
 rw [IntWalk.i64_in m Za,IntWalk.i64_in (m+(q.t-p.t)) Za,IntWalk.i64_in (m+(q.t-p.t)-1) Za,Int.tdiv_eq_ediv_of_nonneg Za,IntWalk.i64_in ((m+(q.t-p.t)-1) / (q.t-p.t)) Za,IntWalk.i64_in _ Za]
 congr 2
 omega
theorem Cg (l:List Pt) (c:Bool) (t:Int) (hl:Wp l) (ht:0<=t/\t<=1073741824):PC 251 [.p (.list c (l.map Ej)),.p (.int .i64 t)] (.int .i64 (Vp l t)):=by
 obtain ⟨i,hi⟩:=Lv hl t;have hl':=hl;obtain ⟨⟨hl1,hl2⟩,hpt⟩:=hl';refine Zc Tryz.func251 rfl O5 ?_;simp (disch:=omega) only [Tryz.f251,go_sem,seval];refine XI (T6 l c t i hl ht hi) (Zi ?_);obtain ⟨i1,i2,i3⟩:=id hi;refine cD ?_ ?_<;>intro h<;>simp (disch:=omega) only [Sh.out h,go_sem,seval,↓reduceIte]
 ·grind [Ie]
 ·refine cD ?_ ?_<;>intro h0<;>simp (disch:=omega) only [Sh.out h0,go_sem,seval]
  ·have:i=0:=Za
   subst this;obtain ⟨p1,p2⟩:=hpt 0 Za;rw [Ig hl hi (fun g=>h ⟨Za,g⟩)];refine Yl ?_;simp (disch:=omega) only [go_sem,seval,↓reduceIte]
  ·refine cD ?_ ?_<;>intro h1<;>simp (disch:=omega) only [Sh.out h1,go_sem,seval]
   ·have:i=l.length:=Za
    subst this;obtain ⟨p1,p2⟩:=hpt (l.length-1) Za;rw [If hi Za]
    have e1:((l.length:Int)-1).toNat=l.length-1:=Za
    refine Yl ?_;simp (disch:=omega) only [go_sem,seval,↓reduceIte]
   ·have g1:i<l.length:=Za
    rw [Fs hi Za g1 (fun g=>h ⟨g1,g⟩)];have g2:=VW hl g1 (i-1) Za;obtain ⟨p1,p2⟩:=hpt i g1;obtain ⟨p3,p4⟩:=hpt (i-1) Za
    have e1:((i:Int)-1).toNat=i-1:=Za
    have q1:=i2 (i-1) Za;have q2:=i3 i (Nat.le_refl _) g1;have q3: ¬(nth l i).t=t:=fun g=>h ⟨g1,g⟩;have q4:=p2 Za;refine Vr [9,10,11] 12 mixed Zg Zg Zg Zb ?_;simp (disch:=omega) only [e1,go_sem,seval];refine Up 9 10 _ _ _ _ Zg (by refine Zi ?_;exact ⟨rfl,rfl⟩) (by refine Zi ?_;exact ⟨rfl,rfl⟩) ?_ ?_
    ·refine Xo 10 _ _ Zg (by refine Zi ?_;exact ⟨rfl,rfl⟩) (Xo 11 _ _ Zg (by refine Zi ?_;exact ⟨rfl,rfl⟩) (W4 ?_));refine Zi ?_;refine Yl (Zi ?_);exact congrArg (fun z=>V.p (PV.int IntKind.i64 z)) (J1 Za Za Za Za Za Za Za)
    ·refine Xo 9 _ _ Zg (by refine Zi ?_;exact ⟨rfl,rfl⟩) (Xo 11 _ _ Zg (by refine Zi ?_;exact ⟨rfl,rfl⟩) (W4 ?_));refine Zi ?_;refine Yl (Zi ?_);exact congrArg (fun z=>V.p (PV.int IntKind.i64 z)) (J1 Za Za Za Za Za Za Za)
theorem EJ (l:List Pt) (c:Bool) (t:Int) (hl:Wp l) (ht:0<=t/\t<=1073741824):PC 248 [.p (.list c (l.map Ej)),.p (.int .i64 t)] (.int .i64 (Vp l t)):=by
 refine Zc Tryz.func248 rfl O2 ?_;simp (disch:=omega) only [Tryz.f248,go_sem,seval];refine (Bv t 0 1073741824).use (Zi ?_);simp (disch:=omega) only [ht,go_sem,seval];refine (LA l c hl).use (Zi ?_);refine (Cg l c t hl ht).use ?_;simp (disch:=omega) only [go_sem,seval]
theorem AY (n:Net) (p:Int) (hn:n.places.length<=1048576):PC 244 [.p (IG n),.p (.int .i64 p)] (.bool (QW n p)):=by
 refine Zc Tryz.func244 rfl OY ?_;simp (disch:=omega) only [Tryz.f244,go_sem,seval];refine gT ?_ ?_<;>intro h<;>simp (disch:=omega) only [Sh.out h,go_sem,seval,↓reduceIte]
 ·simp [QW,h]
 ·simp [QW,h]
theorem LW (a:Arc):PC 247 [.p (VJ a)] (.agg [.int .i64 a.src,.int .i64 a.dst,.int .i64 a.prof]):=by
 refine Zc Tryz.func247 rfl O1 ?_;simp (disch:=omega) only [Tryz.f247,go_sem,seval,↓reduceIte]
theorem Lj (a:Arc) (t:Int) (ha:MZ a) (ht:0<=t/\t<=1073741824):PC 246 [.p (VJ a),.p (.int .i64 t)] (.int .i64 (Fq a t)):=by
 obtain ⟨h1,h2,h3⟩:=ha;have hr:=K7 h1 ht;have hs:=UK (t:=t) (fun p hp=>(h3 p hp).2.2);refine Zc Tryz.func246 rfl O0 ?_;simp (disch:=omega) only [Tryz.f246,go_sem,seval];refine (EJ a.travel a.travel_c t h1 ht).use (Zi ?_);refine Zl [1,13,14] (fun k:Nat=> [(5,.p (.int .i64 (Vp a.travel t+Vl a.slow t k))),(15,.p (.int .i64 k))]) (fun _=> [D1 a]) (fun k=>k<=a.slow.length) (fun k=>a.slow.length-k) 0 Zb (Weak.mk ?_) ?_
 ·simp (disch:=omega) only [D1,Vl,List.foldl_nil,go_sem,seval];simp
 ·intro k hk;have hsk:=hs k hk;simp (disch:=omega) only [D1,go_sem,seval];refine cD ?_ ?_<;>intro h<;>simp (disch:=omega) only [Sh.out h,go_sem,seval,↓reduceIte]
  ·have hk2:k<a.slow.length:=Za
   have hp:=h3 _ (Zp hk2);have hsn:=Q4 (t:=t) hk2;refine XQ ?_ ?_<;>intro h4
   ·rw [if_pos h4] at hsn;exact ⟨k+1,Za,Za,Weak.mk (by simp (disch:=omega) only [hsn,Int.add_assoc,go_sem,seval])⟩
   ·rw [if_neg h4] at hsn;exact ⟨k+1,Za,Za,Weak.mk (by simp (disch:=omega) only [hsn,go_sem,seval])⟩
  grind [Fq]
theorem Lm (n:Net) (pr f t:Int) (hn:n.arcs.length<=1048576):PT 245 [.p (IG n),.p (.int .i64 pr),.p (.int .i64 f),.p (.int .i64 t)] [.p (VJ (Yh n pr f t).1),.p (.bool (Yh n pr f t).2)]:=by
 refine Zd [] Tryz.func245 rfl OZ ?_;simp (disch:=omega) only [Tryz.f245,go_sem,seval];refine Zl [8,10,18,19] (fun k:Nat=> [(20,.p (.int .i64 k))]) (fun _=>Pf n++ [D1 W8,.cells [.p (.int .i64 f),.p (.int .i64 t),.p (.int .i64 pr)]]) (fun k=>k<=n.arcs.length/\ ∀j,j<k->Wk pr f t (nth n.arcs j)=false) (fun k=>n.arcs.length-k) 0 Zb (Weak.mk ?_) ?_
 ·simp (disch:=omega) only [Pf,D1,W8,List.map_nil,List.cons_append,List.nil_append,go_sem,seval]
 ·rintro k ⟨hk,hno⟩;simp (disch:=omega) only [Pf,D1,W8,List.map_nil,List.cons_append,List.nil_append,go_sem,seval];refine cD ?_ ?_<;>intro h<;>simp (disch:=omega) only [Sh.out h,go_sem,seval,↓reduceIte]
  ·have hk2:k<n.arcs.length:=Za
   have nx:Wk pr f t (nth n.arcs k)=false-> ∀j,j<k+1->Wk pr f t (nth n.arcs j)=false:=fun h=>Zo.2 ⟨hno,h⟩;refine Yl (Zi ?_);refine ZN (LW (nth n.arcs k)) (Zi ?_);refine XQ ?_ ?_<;>intro h1
   ·have e:=F1 hk2 hno (by simp [Wk,h1]);obtain ⟨rfl,rfl,rfl⟩:=h1;rw [e];exact we
   ·have e2:Wk pr f t (nth n.arcs k)=false:=by
     simp_all [Wk]
    exact ⟨k+1,⟨Za,nx e2⟩,Za,wk⟩
  ·have hkn:k=n.arcs.length:=Za
   subst hkn;rw [F2 hno];exact we (by simp (disch:=omega) only [W8,List.map_nil,go_sem,seval])
theorem dL (n:Net) (pr f t τ:Int) (hn:netR n) (hτ:0<=τ/\τ<=1073741824):PT 236 [.p (IG n),.p (.int .i64 pr),.p (.int .i64 f),.p (.int .i64 t),.p (.int .i64 τ)] [.p (.int .i64 (KS n pr f t τ).1),.p (.int .i64 (KS n pr f t τ).2.1),.p (.int .i64 (KS n pr f t τ).2.2)]:=by
 refine Zd [] Tryz.func236 rfl OU ?_;simp (disch:=omega) only [Tryz.f236,go_sem,seval];refine (AY n f hn.1).use (Zi ?_);refine gF ?_ ?_<;>intro h1<;>simp (disch:=omega) only [Sh.out h1,go_sem,seval,↓reduceIte]
 ·have e:KS n pr f t τ=(0,0,11):=by grind [KS]
  rw [e];exact we
 ·simp only [Bool.not_eq_false'] at h1;refine (AY n t hn.1).use (Zi ?_);refine cD ?_ ?_<;>intro h2<;>simp (disch:=omega) only [Sh.out h2,go_sem,seval]
  ·have e:KS n pr f t τ=(0,0,11):=by grind [KS]
   rw [e];exact we
  ·simp only [Bool.not_eq_false'] at h2;refine cD ?_ ?_<;>intro h3<;>simp (disch:=omega) only [Sh.out h3,go_sem,seval,↓reduceIte]
   ·have e:KS n pr f t τ=(τ,0,0):=by grind [KS]
    rw [e];exact we
   ·have cf:=Lm n pr f t hn.2.1;have hm:= @Jz n pr f t
    have e0:KS n pr f t τ=if (Yh n pr f t).2=true then (Fq (Yh n pr f t).1 τ,(Yh n pr f t).1.miles,0) else (0,0,12):=by grind [KS]
    rw [e0];generalize Yh n pr f t=A at cf hm ⊢;obtain ⟨a,b⟩:=A;simp only at cf hm ⊢;refine XI cf (Zi ?_);refine cD ?_ ?_<;>intro h4<;>simp (disch:=omega) only [Sh.out h4,go_sem,seval]
    ·have hb:b=false:=by grind
     subst hb;exact we (by simp (disch:=omega) only [go_sem,seval,↓reduceIte])
    ·have hb:b=true:=by grind
     subst hb;refine Yl (Zi ?_);refine ZN (Lj a τ (hn.2.2 a (hm rfl)) hτ) (Zi ?_);exact we
structure Lab where
 ready:Int
 since:Int
 she:She
 deriving Inhabited
def zShe : She:=⟨false,0,true,[],0,0⟩
def XD : Lab:=⟨0,0,zShe⟩
def Z9 (t:Typ) (L:Lab) (b:Bool):Int:=if b=true then L.ready+t.rest else L.ready
def Vf (L:Lab) (b:Bool):Int:=if b=true then 0 else L.since
def Mw (l:List Tim) (k:Nat) (d:Int) (b:Bool):List Tim:=l.set k { nth l k with dep:=d,rest:=b }
def XA (k:Nat) (d:Int) (b:Bool) (s:She):She:=if k=0 then { s with rest:=b,dep:=d } else { s with times:=Mw s.times (k-1) d b }
def EK (t:Typ) (sp:List Stp) (k:Nat):Int:=if k=0 then t.src else (nth sp (k-1)).place
def MC (t:Typ) (sp:List Stp) (k:Nat):Int:=if k=sp.length then t.dst else (nth sp k).place
def Gm (x:Inst) (t:Typ) (sp:List Stp) (k:Nat) (d:Int):Int×Int×Int:=KS x.net t.prof (EK t sp k) (MC t sp k) d
def YO (t:Typ) (sp:List Stp) (k:Nat) (g:Int×Int×Int) (d s:Int) (h:She):Lab×Int :=
 if ¬g.2.2=0 then (XD,12)
 else if k=sp.length then
  if t.cls<g.1 then (XD,15) else if t.drive<s+g.1-d then (XD,16)
  else (⟨g.1,s+g.1-d,{ h with fin:=g.1,miles:=h.miles+g.2.1 }⟩,0)
 else if (nth sp k).cls<max g.1 (nth sp k).opn then (XD,14)
 else if t.drive<s+g.1-d then (XD,16)
 else (⟨max g.1 (nth sp k).opn+(nth sp k).serv,s+g.1-d,{ h with times_c:=false,times:=h.times++ [⟨g.1,max g.1 (nth sp k).opn,0,false⟩],miles:=h.miles+g.2.1 }⟩,0)
def XK (x:Inst) (t:Typ) (sp:List Stp) (k:Nat) (L:Lab) (b:Bool):Lab×Int :=
 YO t sp k (Gm x t sp k (Z9 t L b)) (Z9 t L b) (Vf L b) (XA k (Z9 t L b) b L.she)
def Z2 (x:Inst) (t:Typ) (sp:List Stp) (k:Nat) (L:Lab) (b:Bool):Option Lab:=if (XK x t sp k L b).2=0 then some (XK x t sp k L b).1 else none
def Xp (x:Inst) (t:Typ) (sp:List Stp):Nat->Lab->List Bool->Lab×Int
 | _,L,[]=>(L,0)
 | k,L,b::bs=>if (XK x t sp k L b).2=0 then Xp x t sp (k+1) (XK x t sp k L b).1 bs else (XD,(XK x t sp k L b).2)
def Xf (t:Typ) (st:Int):Lab:=⟨max t.opn st,0,zShe⟩
theorem WS {x:Inst} {t:Typ} {sp:List Stp} : ∀(bs:List Bool) (k:Nat) (L:Lab),Vz (Z2 x t sp) k L bs=if (Xp x t sp k L bs).2=0 then some (Xp x t sp k L bs).1 else none
 | [],k,L=>by rfl
 | b::bs,k,L=>by
  rw [Vz,Xp,Z2]
  by_cases h:(XK x t sp k L b).2=0
  ·simp only [h,if_true];exact WS bs (k+1) _
  ·simp [h]
structure TrpOk (x:Inst) (t:Typ) (sp:List Stp):Prop where
 net:netR x.net
 mil: ∀a∈x.net.arcs,0<=a.miles/\a.miles<=10000
 opn:0<=t.opn/\t.opn<=t.cls/\t.cls<=4096
 drv:1<=t.drive/\t.drive<=4096
 rst:0<=t.rest/\t.rest<=4096
 stp: ∀s∈sp,0<=s.opn/\s.opn<=s.cls/\s.cls<=4096/\0<=s.serv/\s.serv<=4096
 len:sp.length<=20
structure LabR (k:Nat) (L:Lab):Prop where
 rdy:0<=L.ready/\L.ready<=8192
 snc: -(12288*(k:Int))<=L.since/\L.since<=4096
 mil:0<=L.she.miles/\L.she.miles<=10000*(k:Int)
theorem IW {n:Net} {pr f t τ:Int} (hn:netR n) (hm: ∀a∈n.arcs,0<=a.miles/\a.miles<=10000) (hτ:0<=τ/\τ<=1073741824):(0<=(KS n pr f t τ).1/\(KS n pr f t τ).1<=1107369984)/\(0<=(KS n pr f t τ).2.1/\(KS n pr f t τ).2.1<=10000):=by
 unfold KS
 split
 ·simp
 ·split
  ·grind
  ·split
   ·rename_i h;have hA:=Jz h;have h1:=K7 (hn.2.2 _ hA).1 hτ;have h2:=UK (t:=τ) (fun p hp=>((hn.2.2 _ hA).2.2 p hp).2.2) _ (Nat.le_refl _);have h3:=(hn.2.2 _ hA).2.1
    grind [Fq]
   ·simp
theorem Qu {x t sp k L} (h:TrpOk x t sp) (hl:LabR k L) (b:Bool):0<=Z9 t L b/\Z9 t L b<=12288:=by
 have:=h.rst;have:=hl.rdy
 grind [Z9]
theorem Bj {k L} (hl:LabR k L) (b:Bool): -(12288*(k:Int))<=Vf L b/\Vf L b<=4096:=by
 have:=hl.snc
 grind [Vf]
theorem Di {x t sp k L} (h:TrpOk x t sp) (hl:LabR k L) (b:Bool):(0<=(Gm x t sp k (Z9 t L b)).1/\(Gm x t sp k (Z9 t L b)).1<=1107369984)/\(0<=(Gm x t sp k (Z9 t L b)).2.1/\(Gm x t sp k (Z9 t L b)).2.1<=10000):=by
 have:=Qu h hl b;exact IW h.net h.mil Za
theorem UV {k d b s} :(XA k d b s).miles=s.miles:=by grind [XA]
theorem Ey {k d b s} :(XA k d b s).fin=s.fin:=by grind [XA]
theorem Ur {k d b s} :(XA k d b s).times.length=s.times.length:=by grind [XA,Mw]
theorem Dv {x t sp k L b} (h:TrpOk x t sp) (hk:k<=sp.length) (hl:LabR k L) (he:(XK x t sp k L b).2=0):LabR (k+1) (XK x t sp k L b).1:=by
 have h1:=Qu h hl b;have h2:=Bj hl b;obtain ⟨h3,h4⟩:=Di h hl b;have h5:=hl.mil;have h6:=h.opn;have h7:=h.drv;have hm:(XA k (Z9 t L b) b L.she).miles=L.she.miles:=UV;unfold XK at he ⊢
 generalize Gm x t sp k (Z9 t L b)=g at *
 generalize Z9 t L b=d at *
 generalize Vf L b=s at *
 generalize XA k d b L.she=m at *
 unfold YO at he ⊢
 split at he
 ·simp at he
 ·rename_i c1;rw [if_neg c1]
  split at he
  ·rename_i c2;rw [if_pos c2]
   split at he
   ·simp at he
   ·rename_i c3;rw [if_neg c3]
    split at he
    ·simp at he
    ·rename_i c4;rw [if_neg c4];exact ⟨by grind,by grind,by grind⟩
  ·rename_i c2;rw [if_neg c2];have h8:=h.stp _ (Zp (show k<sp.length by omega))
   split at he
   ·simp at he
   ·rename_i c3;rw [if_neg c3]
    split at he
    ·simp at he
    ·rename_i c4;rw [if_neg c4];exact ⟨by grind,by grind,by grind⟩
theorem QQ {x t sp k L b} (hl:L.she.times.length=k) (he:(XK x t sp k L b).2=0) (hk:k<sp.length):(XK x t sp k L b).1.she.times.length=k+1:=by
 have hm:(XA k (Z9 t L b) b L.she).times.length=L.she.times.length:=Ur;unfold XK at he ⊢
 generalize Gm x t sp k (Z9 t L b)=g at *
 generalize Z9 t L b=d at *
 generalize Vf L b=s at *
 generalize XA k d b L.she=m at *
 have hk2: ¬k=sp.length:=Za
 unfold YO at he ⊢
 grind
def Zt (m x:Lab):Bool:=decide (m.ready=x.ready)&&decide (m.since<=x.since)
theorem BQ {x t sp k} {m y z:Lab} {b:Bool} (hb:Zt m y=true) (hn:Z2 x t sp k y b=some z): ∃u,Z2 x t sp k m b=some u/\Zt u z=true:=by
 simp only [Zt,Bool.and_eq_true,decide_eq_true_eq] at hb;obtain ⟨hb1,hb2⟩:=hb
 have hd:Z9 t m b=Z9 t y b:=by simp [Z9,hb1]
 have hs:Vf m b<=Vf y b:=by grind [Vf]
 unfold Z2 at hn ⊢;unfold XK at hn ⊢;rw [hd]
 generalize Gm x t sp k (Z9 t y b)=g at *
 generalize Z9 t y b=d at *
 generalize Vf y b=s at *
 generalize Vf m b=s2 at *
 generalize XA k d b y.she=h1 at *
 generalize XA k d b m.she=h2 at *
 unfold YO at hn ⊢
 by_cases c1:g.2.2=0
 ·by_cases c2:k=sp.length
  ·simp only [c1,c2,not_true,if_true,if_false] at hn ⊢
   by_cases c3:t.cls<g.1
   ·grind
   ·by_cases c4:t.drive<s+g.1-d
    ·grind
    ·have c5: ¬t.drive<s2+g.1-d:=Za
     simp only [c3,c4,if_false,if_true,Option.some.injEq] at hn;subst hn;refine ⟨_,by simp only [c3,c5,if_false,if_true];rfl,?_⟩;simp [Zt];omega
  ·simp only [c1,c2,not_true,if_false] at hn ⊢
   by_cases c3:(nth sp k).cls<max g.1 (nth sp k).opn
   ·grind
   ·by_cases c4:t.drive<s+g.1-d
    ·grind
    ·have c5: ¬t.drive<s2+g.1-d:=Za
     simp only [c3,c4,if_false,if_true,Option.some.injEq] at hn;subst hn;refine ⟨_,by simp only [c3,c5,if_false,if_true];rfl,?_⟩;simp [Zt];omega
 grind
def X0 (L:Lab):Int:=L.she.fin
theorem AT {x t sp} {y z:Lab} {b:Bool} (hn:Z2 x t sp sp.length y b=some z):z.she.fin=z.ready:=by
 unfold Z2 XK YO at hn
 grind
theorem JF {x t sp} (ch:Nat->List Bool) (L:Lab):YD X0 none (Wn Zt (Z2 x t sp) ch (sp.length+1) 0 [L])=YD X0 none (XU (Z2 x t sp) ch (sp.length+1) 0 L):=by
 have h:=Dn X0 Zt (Z2 x t sp) ch (n:=sp.length+1) (Inv:=fun k y=>k=sp.length+1->y.she.fin=y.ready)
  (fun k y b z _ hn hk=>by
   grind [AT]) (fun k m y b z _ _ hb hn=>BQ hb hn)
  (fun m y h1 h2 hb=>by
   simp only [Zt,Bool.and_eq_true,decide_eq_true_eq] at hb
   rw [X0,X0,h1 rfl,h2 rfl];omega) (sp.length+1) 0 [L] Za (fun y _ hk=>Za)
 rw [h];simp
def Yg (r:List Bool) (k:Nat):List Bool:=match r[k]? with | some b=> [b] | none=> [false,true]
theorem Df (r:List Bool) (n:Nat) (hn:r.length<=n): ∀(j k:Nat),k+j=r.length->Ku (Yg r) (n-k) k=(Xj (List.replicate (n-r.length) false)).map (r.drop k++ ·)
 | 0,k,h=>by
  have hk:k=r.length:=Za
  subst hk;rw [As (n:=n) _ _ _ (fun q hq=>by grind [Yg])];simp
 | j+1,k,h=>by
  have e:n-k=(n-(k+1))+1:=Za
  have hlt:k<r.length:=Za
  rw [e,Ku,Df r n hn j (k+1) Za]
  have:Yg r k= [r[k]]:=by simp [Yg,hlt]
  rw [this,List.flatMap_cons,List.flatMap_nil,List.append_nil,List.map_map,List.drop_eq_getElem_cons hlt]
  rfl
theorem Jy (r:List Bool) (n:Nat) (hn:r.length<=n):Ku (Yg r) n 0=(Xj (List.replicate (n-r.length) false)).map (r++ ·):=by
 have:=Df r n hn r.length 0 Za
 grind
def YT (r:List Bool) (n:Nat):List (List Bool):=(Xj (List.replicate (n-r.length) false)).map (r++ ·)
def Vd (r:List Bool) (n:Nat):List Bool:=r++List.replicate (n-r.length) false
def Wy (x:Inst) (t:Typ) (sp:List Stp) (st:Int) (r:List Bool):She×Int :=
 match YD X0 none ((YT r (sp.length+1)).filterMap (Vz (Z2 x t sp) 0 (Xf t st))) with
 | some L=>(L.she,0)
 | none=>(zShe,(Xp x t sp 0 (Xf t st) (Vd r (sp.length+1))).2)
theorem Kk {x t sp} {st:Int} {r:List Bool} (hr:r.length<=sp.length+1):Wy x t sp st r=match YD X0 none (Wn Zt (Z2 x t sp) (Yg r) (sp.length+1) 0 [Xf t st]) with
 | some L=>(L.she,0)
 | none=>(zShe,(Xp x t sp 0 (Xf t st) (Vd r (sp.length+1))).2):=by
 rw [JF,XU,Jy r _ hr];rfl
theorem A6 {x t sp} : ∀(bs:List Bool) (k:Nat) (L:Lab),L.she.times.length=k->k+bs.length=sp.length+1->0<bs.length->(Xp x t sp k L bs).2=0->(Xp x t sp k L bs).1.she.times.length=sp.length
 | [],k,L,h1,h2,h3,h=>by simp at h3
 | b::bs,k,L,h1,h2,_,h=>by
  rw [Xp] at h ⊢
  by_cases h4:(XK x t sp k L b).2=0
  ·simp only [h4,if_true] at h ⊢
   cases bs with
   | nil =>
    simp at h2;subst h2;rw [Xp];unfold XK at h4 ⊢;unfold YO at h4 ⊢
    split at h4
    ·simp at h4
    ·rename_i c1;rw [if_neg c1];simp only [if_true] at h4 ⊢
     split at h4
     ·simp at h4
     ·rename_i c2;rw [if_neg c2]
      split at h4
      ·simp at h4
      simp_all [if_neg,Ur]
   | cons b2 bs =>
    simp at h2;exact A6 (b2::bs) (k+1) _ (QQ h1 h4 Za) (by simp;omega) Zb h
  grind
theorem bestF_len {x t sp} {st:Int} {r:List Bool} (hr:r.length<=sp.length+1) (h:(Wy x t sp st r).2=0):(Wy x t sp st r).1.times.length=sp.length:=by
 unfold Wy at h ⊢
 cases hf:YD X0 none ((YT r (sp.length+1)).filterMap (Vz (Z2 x t sp) 0 (Xf t st))) with
 | none =>
  rw [hf] at h;simp only at h ⊢;exfalso
  have hm:Vd r (sp.length+1)∈YT r (sp.length+1):=by
   grind [YT,Vd,Vs]
  have h2:Vz (Z2 x t sp) 0 (Xf t st) (Vd r (sp.length+1))=some (Xp x t sp 0 (Xf t st) (Vd r (sp.length+1))).1:=by rw [WS,if_pos h]
  have h3:(Xp x t sp 0 (Xf t st) (Vd r (sp.length+1))).1∈(YT r (sp.length+1)).filterMap (Vz (Z2 x t sp) 0 (Xf t st)):=List.mem_filterMap.2 ⟨_,hm,h2⟩;generalize (YT r (sp.length+1)).filterMap (Vz (Z2 x t sp) 0 (Xf t st))=l at hf h3
  cases l with
  | nil=>simp at h3
  | cons a l =>
   rw [YD] at hf;obtain ⟨z,e,_⟩:=WD X0 l a
   grind
 | some L =>
  simp only;have hm:=fmL_mem _ _ hf;obtain ⟨bs,hbs,hrun⟩:=List.mem_filterMap.1 hm;rw [WS] at hrun
  split at hrun
  ·rename_i h5;simp at hrun;subst hrun;obtain ⟨q,hq,rfl⟩:=List.mem_map.1 hbs;have hql:=fromB_len _ _ hq;simp at hql;exact A6 _ 0 _ rfl (by grind) (by grind) h5
  ·cases hrun
where
 fmL_mem: ∀(l:List Lab) (L:Lab),YD X0 none l=some L->L∈l
 | [],L,h=>by simp [YD] at h
 | a::l,L,h=>by
  rw [YD] at h;exact fmL_mem2 l a L h
 fmL_mem2: ∀(l:List Lab) (a L:Lab),YD X0 (some a) l=some L->L∈a::l
 | [],a,L,h=>by grind [YD]
 | y::l,a,L,h=>by
  rw [YD] at h
  split at h
  ·have:=fmL_mem2 l y L h;grind
  ·have:=fmL_mem2 l a L h;grind
 fromB_len: ∀(l q:List Bool),q∈Xj l->q.length=l.length
 | [],q,h=>by grind [Xj]
 | b::bs,q,h=>by
  rw [Xj] at h
  split at h
  ·obtain ⟨q',hq,rfl⟩:=List.mem_map.1 h;simp [fromB_len bs q' hq]
  ·rcases List.mem_append.1 h with h | h
   ·obtain ⟨q',hq,rfl⟩:=List.mem_map.1 h;simp [fromB_len bs q' hq]
   ·obtain ⟨q',hq,rfl⟩:=List.mem_map.1 h;simp [fromB_len (List.replicate bs.length false) q' hq]
 termination_by l=>l.length
 decreasing_by all_goals simp
def YC (x:Inst) (v:Vis):Stp:=if v.drp=true then (nth x.orders v.order.toNat).drp else (nth x.orders v.order.toNat).pick
def XC (x:Inst) (l:List Vis):List Stp:=l.map (YC x)
def YV (t:Typ) (s:Int):Bool:=decide (0<=t.skills)&&decide (0<=s)&&(List.range 63).all fun i=> !s.toNat.testBit i||t.skills.toNat.testBit i
def UR (a c:List Int):Bool:=decide (a.length=c.length)&&(List.range a.length).all fun i=>decide (nth a i<=nth c i)
def QJ (x:Inst) (c:List Int) (l:List Vis):Bool:=(List.range (l.length+1)).all fun n=>UR (Yb x l n) c
def ZR (x:Inst) (r:Rte):Typ:=nth x.types r.typ.toNat
def Qx (l:List Vis) (i:Nat):Bool:= !((l.take i).any fun v=>decide (v.order=(nth l i).order))
def VL (k t:Int):Bool:=decide (k≠ -1)&&decide (k≠t)
def chgF (x:Inst) (l:List Vis) (t:Int):Nat->Int×Int
 | 0=>(0,0)
 | n+1=>if Qx l n=true then ((chgF x l t n).1+(if VL (nth x.orders (nth l n).order.toNat).now t=true then 1 else 0),(chgF x l t n).2+(if VL (nth x.orders (nth l n).order.toNat).last t=true then 1 else 0)) else chgF x l t n
def LH (x:Inst) (r:Rte) (s:She):Sco :=
 ⟨(ZR x r).fixed+(ZR x r).perMile*s.miles+(ZR x r).perTick*(s.fin-(ZR x r).opn),(chgF x r.visits r.typ r.visits.length).1,(chgF x r.visits r.typ r.visits.length).2,(s.fin-(ZR x r).opn).tdiv 64*(s.fin-(ZR x r).opn).tdiv 64⟩
def X9 (x:Inst) (r:Rte):Int :=
 if ¬(0<=r.typ/\r.typ<(x.types.length:Int)) then 2
 else if ¬Z3 x r.visits=0 then Z3 x r.visits
 else if (r.visits.any fun v=> !YV (ZR x r) (nth x.orders v.order.toNat).skills)=true then 18
 else if QJ x (ZR x r).cap r.visits=false then 17
 else if ¬(0<=r.start/\r.start<=4096/\r.rests.length<=r.visits.length+1) then 2
 else 0
def XO (x:Inst) (r:Rte):She×Int:=Wy x (ZR x r) (XC x r.visits) r.start r.rests
def Z6 (x:Inst) (r:Rte):Int:=if X9 x r=0 then (XO x r).2 else X9 x r
def De (x:Inst) (r:Rte):She:=if Z6 x r=0 then (XO x r).1 else zShe
def Dd (x:Inst) (r:Rte):Sco:=if Z6 x r=0 then LH x r (XO x r).1 else zSco
def NO (x:Inst) (v:Vis):Bool:=decide (0<=v.order)&&decide (v.order<(x.orders.length:Int))
def LV (x:Inst) (v:Vis):Bool:=NO x v&&decide (0<=(YC x v).place)
@[go_sem high] theorem gC {k k':IntKind} {a b:Int} :BJ false [.p (.int k a),.p (.int k' b)]=some (.int k (max a b)):=by
 grind [BJ]
theorem X3 {x:Inst} {l:List Vis} :(XC x l).length=l.length:=by simp [XC]
theorem CG {x:Inst} {l:List Vis} {k:Nat} (h:k<l.length):nth (XC x l) k=YC x (nth l k):=by
 grind [Zh,XC]
structure LdOk (x:Inst):Prop where
 ord:x.orders.length<=10
 typ:x.types.length<=1048576
 dim:1<=dimsOf x.types/\dimsOf x.types<=3
 load: ∀o∈x.orders,(o.load.length:Int)=dimsOf x.types/\ ∀n∈o.load,0<=n/\n<=1000
theorem VO {x:Inst} (h:InstOk x):LdOk x:=by
 have ht:=h.types.1;simp only [rng,decide_eq_true_eq] at ht;have ho:=h.orders
 have h0:0<x.types.length:=Za
 have hcap:=h.types.2 0 h0;unfold DM at hcap;obtain ⟨⟨⟨⟨⟨⟨⟨⟨_,_⟩,_⟩,_⟩,hcap⟩,_⟩,_⟩,_⟩,_⟩:=hcap;simp only [FF,Bool.and_eq_true,decide_eq_true_eq,rng] at hcap;refine ⟨ho.1,Za,Za,fun o hm=> ?_⟩;obtain ⟨i,hi,rfl⟩:=List.mem_iff_getElem.1 hm;have:=(ho.2 i hi).load;rw [Zh hi] at this
 simp_all [loadOk,rng]
def Mo (l:List Int):PV:= .list false (l.map eI)
@[go_sem] theorem Nz (l:List Int):Mo l= .list false (l.map eI):=Eq.trans rfl rfl
def QK (x:Inst) (l:List Vis):List (List Int):=(List.range (l.length+1)).map (Yb x l)
def BR (s:Stp) (a:Int):Int×Int:=if max a s.opn>s.cls then (0,14) else (max a s.opn,0)
theorem Iy (s:Stp) (a:Int):PT 238 [.p (BX s),.p (.int .i64 a)] [.p (.int .i64 (BR s a).1),.p (.int .i64 (BR s a).2)]:=by
 refine Zd [] Tryz.func238 rfl OW ?_;simp (disch:=omega) only [Tryz.f238,go_sem,seval];refine cD ?_ ?_<;>intro h<;>simp (disch:=omega) only [Sh.out h,go_sem,seval]
 ·have e:BR s a=(0,14):=by simp_all [BR]
  rw [e];exact we
 ·have e:BR s a=(max a s.opn,0):=by simp_all [BR]
  rw [e];exact we
theorem G6 (l:List Ord) (c:Bool) (p:Int) (hl:l.length<=1048576):PC 117 [.p (.list c (l.map Wr)),.p (.int .i64 p)] (.bool (decide (0<=p)&&decide (p<(l.length:Int)))):=by
 refine Zc Tryz.func117 rfl Gu ?_;simp (disch:=omega) only [Tryz.f117,go_sem,seval];refine gT ?_ ?_<;>intro h<;>simp (disch:=omega) only [Sh.out h,go_sem,seval,↓reduceIte]
 all_goals simp [h]
theorem Lp (x:Inst) (v:Vis) (ho:x.orders.length<=1048576) (hv:NO x v=true) (hp:0<=(YC x v).place):PT 73 [.p (.list x.orders_c (x.orders.map Wr)),.p (ZW v)] [.p (BX (YC x v)),.p (.int .i64 0)]:=by
 refine Zd [] Tryz.func73 rfl bY ?_;simp (disch:=omega) only [Tryz.f73,go_sem,seval];have hv':=hv;rw [NO] at hv';have ct:=G6 x.orders x.orders_c v.order ho;rw [hv'] at ct;refine ct.use ?_;simp only [Bool.and_eq_true,decide_eq_true_eq] at hv';obtain ⟨h1,h2⟩:=hv'
 have hi:v.order.toNat<x.orders.length:=Za
 refine Zi ?_;refine cD ?_ ?_<;>intro hd<;>simp (disch:=omega) only [Sh.out hd,go_sem,seval,↓reduceIte]
 ·have e:YC x v=(nth x.orders v.order.toNat).drp:=by simp [YC,hd]
  rw [e] at hp ⊢
  have e3: ¬(nth x.orders v.order.toNat).drp.place<0:=Za
  simp (disch:=omega) only [e3,go_sem,seval];exact we
 ·have e:YC x v=(nth x.orders v.order.toNat).pick:=by simp [YC,hd]
  rw [e] at hp ⊢
  have e3: ¬(nth x.orders v.order.toNat).pick.place<0:=Za
  simp (disch:=omega) only [e3,go_sem,seval];exact we
theorem Ll (l:List Typ) (c:Bool) (ht:l.length<=1048576):PC 160 [.p (.list c (l.map Jj))] (.int .i64 (dimsOf l)):=by
 refine Zc Tryz.func160 rfl N9 ?_;simp (disch:=omega) only [Tryz.f160,go_sem,seval];refine cD ?_ ?_<;>intro h1<;>simp (disch:=omega) only [Sh.out h1,go_sem,seval,↓reduceIte]
 ·grind [dimsOf]
 simp_all [dimsOf]
theorem Ln (a b:List Int) (c d:Bool) (ha:a.length<=1048576) (hb:b.length<=1048576):PC 190 [.p (.list c (a.map eI)),.p (.list d (b.map eI))] (.bool (UR a b)):=by
 refine Zc Tryz.func190 rfl Ov ?_;simp (disch:=omega) only [Tryz.f190,go_sem,seval];refine cD ?_ ?_<;>intro h1<;>simp (disch:=omega) only [Sh.out h1,go_sem,seval]
 ·grind [UR]
 ·have h1':a.length=b.length:=Za
  refine Zl [1,12,13] (fun k:Nat=> [(14,.p (.int .i64 k))]) (fun _=> []) (fun k=>k<=a.length/\ ∀j,j<k->nth a j<=nth b j) (fun k=>a.length-k) 0 Zb (Weak.mk ?_) ?_
  ·simp (disch:=omega) only [go_sem,seval]
  ·rintro k ⟨hk,hno⟩;refine Zi ?_;refine cD ?_ ?_<;>intro h2<;>simp (disch:=omega) only [Sh.out h2,go_sem,seval,↓reduceIte]
   ·have hk2:k<a.length:=Za
    refine XQ ?_ ?_<;>intro h3
    ·grind [UR]
    ·exact ⟨k+1,⟨Za,Zo.2 ⟨hno,Za⟩⟩,Za,wk⟩
   ·have hkl:k=a.length:=Za
    simp_all [UR]
theorem Li (t:Typ) (s:Int) (h1:t.skills<9223372036854775808) (h2:s<9223372036854775808):PC 187 [.p (Jj t),.p (.int .i64 s)] (.bool (YV t s)):=by
 refine Zc Tryz.func187 rfl Oq ?_;simp (disch:=omega) only [Tryz.f187,go_sem,seval];refine gT ?_ ?_<;>intro c1<;>simp (disch:=omega) only [Sh.out c1,go_sem,seval,↓reduceIte]
 ·refine gT ?_ ?_<;>intro c2<;>simp (disch:=omega) only [Sh.out c2,go_sem,seval,↓reduceIte]
  ·obtain ⟨M,hM⟩: ∃M:Nat,t.skills=(M:Int):=⟨t.skills.toNat,Za⟩;obtain ⟨S,rfl⟩: ∃S:Nat,s=(S:Int):=⟨s.toNat,Za⟩;have hb:=K4 (S:=S) (M:=M) Za
   have e:YV t (S:Int)=(List.range 63).all fun i=> !S.testBit i||M.testBit i:=by
    simp_all [YV]
   have hd:decide (IntKind.i64.wrap ((BitVec.ofInt 64 (S:Int)&&& ~~~BitVec.ofInt 64 (M:Int)).toNat:Int)=0)=((List.range 63).all fun i=> !S.testBit i||M.testBit i):=by
    grind
   rw [e,hM];exact congrArg (fun b=>V.p (PV.bool b)) hd
  grind [YV]
 grind [YV]
theorem Pu (a b:Int) (h: -1073741824<=a/\a<=1073741824/\ -1073741824<=b/\b<=1073741824):PC 198 [.p (.int .i64 a),.p (.int .i64 b)] (.int .i64 (a+b)):=by
 refine Zc Tryz.func198 rfl OC ?_;simp (disch:=omega) only [Tryz.f198,go_sem,seval]
theorem I8 (a b:Int) (h: -1073741824<=a/\a<=1073741824/\ -1073741824<=b/\b<=1073741824):PC 199 [.p (.int .i64 a),.p (.int .i64 b)] (.int .i64 (a-b)):=by
 refine Zc Tryz.func199 rfl OD ?_;simp (disch:=omega) only [Tryz.f199,go_sem,seval]
def E4 (f:Nat->Int) (n k:Nat):List Int:=(List.range n).map fun j=>if j<k then f j else 0
theorem La {f:Nat->Int} {n k:Nat} :(E4 f n k).length=n:=by simp [E4]
theorem GM {f:Nat->Int} {n:Nat} :E4 f n 0=List.replicate n 0:=by
 apply List.ext_getElem (by simp [E4]);grind [E4]
theorem GL {f:Nat->Int} {n:Nat} :E4 f n n=(List.range n).map f:=by
 simp_all [E4]
theorem Lb {f:Nat->Int} {n k:Nat} (h:k<n):(E4 f n k).set k (f k)=E4 f n (k+1):=by
 apply List.ext_getElem (by simp [E4]);grind [E4]
theorem Jw (a b:List Int) (c d:Bool) (g:FuncId) (f:Int->Int->Int) (hl:a.length=b.length) (ha:a.length<=1048576)
  (hf: ∀j,j<a.length->ACalls Tryz.prog g [.p (.int .i64 (nth a j)),.p (.int .i64 (nth b j))] [] fun x H'=>x= .p (.int .i64 (f (nth a j) (nth b j)))/\H'= []) :
  PT 197 [.p (.list c (a.map eI)),.p (.list d (b.map eI)),.fn (.func g) [] []] [.p (.list false (((List.range a.length).map fun j=>f (nth a j) (nth b j)).map eI)),.p (.int .i64 0)]:=by
 refine Zd [9] Tryz.func197 rfl OB ?_;simp (disch:=omega) only [Tryz.f197,go_sem,seval];refine cD ?_ ?_<;>intro h0<;>simp (disch:=omega) only [Sh.out h0,go_sem,seval]
 ·omega
 ·have hz:=GM (f:=fun j=>f (nth a j) (nth b j)) (n:=a.length);have hml:=fun k=>La (f:=fun j=>f (nth a j) (nth b j)) (n:=a.length) (k:=k);refine ZI [9] [0,1,2,8,19] (fun k:Nat=> [(20,.p (.int .i64 k))]) (fun k=> [.elems 1 ((E4 (fun j=>f (nth a j) (nth b j)) a.length k).map eI)]) (fun k=>k<=a.length) (fun k=>a.length-k) 0 Zb (Weak.mk ?_) ?_
  ·simp (disch:=omega) only [hz,go_sem,seval];rw [List.map_replicate];rfl
  ·intro k hk;refine Zi ?_;refine cD ?_ ?_<;>intro h1<;>simp (disch:=omega) only [Sh.out h1,go_sem,seval,↓reduceIte]
   ·have hk2:k<a.length:=Za
    have hs:=Lb (f:=fun j=>f (nth a j) (nth b j)) (n:=a.length) hk2;have hk3:=hml k;refine XB 12 mixed Zg Zg ?_;refine Zi ?_;refine ZN (hf k hk2) ?_;refine Zi ?_;simp (disch:=first | omega | (simp only [List.length_cons,List.length_nil,List.length_append,List.length_map,List.length_take,List.length_drop]<;>omega)) only [go_sem,seval,↓reduceIte];refine ⟨k+1,Za,Za,Weak.mk ?_⟩;simp (disch:=omega) only [<- hs,go_sem,seval];rw [List.map_set];rfl
   ·have hkl:k=a.length:=Za
    subst hkl;rw [<- GL];have hk3:=hml a.length;refine Zz (Weak.fz (o:=0) (by rfl)) ?_;refine Ze [] _ _ _ _ ?_;simp (disch:=omega) only [List.map_cons,List.map_nil,List.set_cons_zero,go_sem,seval];rw [if_pos hk3];exact we
theorem GZ (a b:List Int) (c d:Bool) (hl:a.length=b.length) (ha:a.length<=1048576) (h: ∀j,j<a.length-> -1073741824<=nth a j/\nth a j<=1073741824/\ -1073741824<=nth b j/\nth b j<=1073741824):PT 161 [.p (.list c (a.map eI)),.p (.list d (b.map eI))] [.p (.list false ((Qe a b).map eI)),.p (.int .i64 0)]:=by
 refine Zd [] Tryz.func161 rfl Oa ?_;simp (disch:=omega) only [Tryz.f161,go_sem,seval];refine XI (Jw a b c d 198 (fun m n=>m+n) hl ha fun j hj=>Pu _ _ (h j hj)) ?_;simp (disch:=omega) only [Qe,go_sem,seval];exact we
theorem Po (a b:List Int) (c d:Bool) (hl:a.length=b.length) (ha:a.length<=1048576) (h: ∀j,j<a.length-> -1073741824<=nth a j/\nth a j<=1073741824/\ -1073741824<=nth b j/\nth b j<=1073741824):PT 162 [.p (.list c (a.map eI)),.p (.list d (b.map eI))] [.p (.list false ((LM a b).map eI)),.p (.int .i64 0)]:=by
 refine Zd [] Tryz.func162 rfl Ob ?_;simp (disch:=omega) only [Tryz.f162,go_sem,seval];refine XI (Jw a b c d 199 (fun m n=>m-n) hl ha fun j hj=>I8 _ _ (h j hj)) ?_;simp (disch:=omega) only [LM,go_sem,seval];exact we
theorem G3 (x:Inst) (r:Rte) (ht:0<=r.typ/\r.typ<(x.types.length:Int)) (hv: ∀v∈r.visits,NO x v=true) (hl:r.visits.length<=1048576) (hxl:x.types.length<=1048576) (hol:x.orders.length<=1048576)
  (hs:(ZR x r).skills<9223372036854775808) (ho: ∀o∈x.orders,o.skills<9223372036854775808) :
  PC 154 [.p (XW x),.p (XS r)] (.int .i64 (if (r.visits.any fun v=> !YV (ZR x r) (nth x.orders v.order.toNat).skills)=true then 18 else 0)):=by
 refine Zc Tryz.func154 rfl N4 ?_;simp (disch:=omega) only [Tryz.f154,go_sem,seval];refine Zl [2,3,8,9] (fun k:Nat=> [(10,.p (.int .i64 k))]) (fun _=> [Zj x,.cells [.p (.int .i64 r.typ),.p (.int .i64 r.start),.p (.list r.rests_c (r.rests.map eB)),.p (.list r.visits_c (r.visits.map ZW))]]) (fun k=>k<=r.visits.length/\ ∀j,j<k->YV (ZR x r) (nth x.orders (nth r.visits j).order.toNat).skills=true) (fun k=>r.visits.length-k) 0 Zb (Weak.mk ?_) ?_
 ·simp (disch:=omega) only [Zj,go_sem,seval]
 ·rintro k ⟨hk,hno⟩;simp (disch:=omega) only [Zj,go_sem,seval];refine cD ?_ ?_<;>intro h1<;>simp (disch:=omega) only [Sh.out h1,go_sem,seval,↓reduceIte]
  ·have hk2:k<r.visits.length:=Za
   have hin:=hv _ (Zp hk2);simp only [NO,Bool.and_eq_true,decide_eq_true_eq] at hin;obtain ⟨i1,i2⟩:=hin
   have hi:(nth r.visits k).order.toNat<x.orders.length:=Za
   have ho':=ho _ (Zp hi);refine Yl (Zi ?_);refine ZN (Li (ZR x r) (nth x.orders (nth r.visits k).order.toNat).skills Za Za) (Zi ?_);refine XQ ?_ ?_<;>intro h2
   ·have:(r.visits.any fun v=> !YV (ZR x r) (nth x.orders v.order.toNat).skills)=true:=by
     grind [Zp]
    grind
   ·exact ⟨k+1,⟨Za,Zo.2 ⟨hno,by grind⟩⟩,Za,wk⟩
  ·have: ¬(r.visits.any fun v=> !YV (ZR x r) (nth x.orders v.order.toNat).skills)=true:=by
    rw [List.any_eq_true];rintro ⟨v,hv,e⟩;obtain ⟨j,hj,rfl⟩:=List.mem_iff_getElem.1 hv
    grind [Zh]
   grind
def DI (x:Inst) (d:Nat) (ms:List Int) (k:Nat):List Int:=(ms.take k).foldl (fun s i=>if (nth x.orders i.toNat).pick.place<0 then Qe s (nth x.orders i.toNat).load else s) (List.replicate d 0)
theorem Bl {x:Inst} {d:Nat} {ms:List Int} {k:Nat} (h:k<ms.length):DI x d ms (k+1)=if (nth x.orders (nth ms k).toNat).pick.place<0 then Qe (DI x d ms k) (nth x.orders (nth ms k).toNat).load else DI x d ms k:=by
 grind [DI,List.take_succ_eq_append_getElem,Zh]
theorem DJ {x:Inst} {d:Nat} {ms:List Int} (hms: ∀i∈ms,∀j,j<d->0<=nth (nth x.orders i.toNat).load j/\nth (nth x.orders i.toNat).load j<=1000): ∀k,k<=ms.length->(DI x d ms k).length=d/\ ∀j,j<d->0<=nth (DI x d ms k) j/\nth (DI x d ms k) j<=1000*k
 | 0,_=>by
  grind [DI,Zh]
 | k+1,h=>by
  obtain ⟨h1,h2⟩:=DJ hms k Za;rw [Bl Za]
  split
  ·refine ⟨by simp [Qe,h1],fun j hj=> ?_⟩;have a1:=h2 j hj;have a2:=hms _ (Zp (show k<ms.length by omega)) j hj;rw [Qe,Y1 Za];omega
  ·exact ⟨h1,fun j hj=>by have:=h2 j hj;omega⟩
theorem LK (x:Inst) (S:Int) (d:Nat) (hd:d<=3) (hol:x.orders.length<=1048576) (hms: ∀i∈Xd S 63,0<=i/\i<(x.orders.length:Int)) (hml:(Xd S 63).length<=63)
  (hld: ∀o∈x.orders,o.load.length=d/\ ∀n∈o.load,0<=n/\n<=1000) :
  PC 159 [.p (XW x),.p (.int .i64 S),.p (.int .i64 (d:Int))] (.list false ((DI x d (Xd S 63) (Xd S 63).length).map eI)):=by
 have hmo: ∀i∈Xd S 63,i.toNat<x.orders.length:=fun i hi=>by grind
 have hrg:=DJ (x:=x) (d:=d) (ms:=Xd S 63) fun i hi j hj=>by
  grind [Zp]
 refine Zc Tryz.func159 rfl N8 ?_;simp (disch:=omega) only [Tryz.f159,go_sem,seval];refine (EA S).useF (Zi ?_);refine Zz ((Weak.fz (o:=1) (by rfl)).trans (Weak.fz (o:=2) (by rfl))) ?_;simp (disch:=omega) only [List.map_cons,List.map_nil,List.set_cons_succ,List.set_cons_zero,List.length_replicate,eq_self,go_sem,seval]
 have hz:List.replicate d (PV.int .i64 0)=(DI x d (Xd S 63) 0).map eI:=by
  show _=(List.replicate d 0).map eI
  rw [List.map_replicate];rfl
 refine Zl [3,13,14] (fun k:Nat=> [(7,.p (.list false ((DI x d (Xd S 63) k).map eI))),(15,.p (.int .i64 k))]) (fun _=> [Zj x,.dead,.dead]) (fun k=>k<=(Xd S 63).length) (fun k=>(Xd S 63).length-k) 0 Zb (Weak.mk ?_) ?_
 ·simp (disch:=omega) only [Zj,hz,go_sem,seval]
 ·intro k hk;have hk1:=hrg k hk;have hsn:=fun h=>Bl (x:=x) (d:=d) (ms:=Xd S 63) (k:=k) h;simp (disch:=omega) only [Zj,go_sem,seval];refine cD ?_ ?_<;>intro h1<;>simp (disch:=omega) only [Sh.out h1,go_sem,seval,↓reduceIte]
  ·have hk2:k<(Xd S 63).length:=Za
   have hm:=hms _ (Zp hk2);have hi:=hmo _ (Zp hk2);have hlo:=hld _ (Zp hi);have hsn:=hsn hk2;refine Zi ?_;refine XQ ?_ ?_<;>intro h2
   ·rw [if_pos h2] at hsn;refine XI (GZ (DI x d (Xd S 63) k) (nth x.orders (nth (Xd S 63) k).toNat).load false (nth x.orders (nth (Xd S 63) k).toNat).load_c Za Za fun j hj=> ?_) ?_
    ·have b1:=hk1.2 j Za;have b2:=hlo.2 _ (Zp (show j<(nth x.orders (nth (Xd S 63) k).toNat).load.length by omega));omega
    ·refine Zi ?_;exact ⟨k+1,Za,Za,Weak.mk (by simp (disch:=omega) only [hsn,go_sem,seval])⟩
   ·rw [if_neg h2] at hsn;exact ⟨k+1,Za,Za,Weak.mk (by simp (disch:=omega) only [hsn,go_sem,seval])⟩
  grind
theorem B3 {p:Nat->Bool} {n:Nat} (h: ∀i,n<=i->p i=false): ∀k,n<=k->(List.range k).filter p=(List.range n).filter p:=by
 intro k hk
 induction k with
 | zero=>grind
 | succ k ih =>
  grind [List.range_succ]
theorem cW {x:Inst} {l:List Vis} (hi:Inr x l) (hn:x.orders.length<=10):Xd ((Yn l:Nat):Int) 63=((List.range x.orders.length).filter fun (i:Nat)=>Xx l (i:Int)).map fun (i:Nat)=>(i:Int):=by
 have key: ∀i:Nat,i<=62->U1 ((Yn l:Nat):Int) (i:Int)=Xx l (i:Int):=fun i h=>by
  rw [Bc _ _ h,Bool.eq_iff_iff,QS,WE]
  constructor
  ·rintro ⟨v,hv,e⟩;exact ⟨v,hv,by have:=hi v hv;omega⟩
  grind
 unfold Xd;rw [List.filter_congr (q:=fun (i:Nat)=>Xx l (i:Int)) (fun i hm=>key i (by grind)),B3 (n:=x.orders.length) (fun i h=> ?_) 63 Za]
 cases hh:Xx l (i:Int) with
 | false=>rfl
 | true =>
  obtain ⟨v,hv,e⟩:=WE.1 hh;have:=hi v hv;omega
theorem Gb {x:Inst} {d:Nat} : ∀(L:List Nat) (g:Nat->Int),(L.map fun (i:Nat)=>(i:Int)).foldl (fun s (i:Int)=>if (nth x.orders i.toNat).pick.place<0 then Qe s (nth x.orders i.toNat).load else s) ((List.range d).map g)=(List.range d).map fun j=>g j+(L.map fun i=>if (nth x.orders i).pick.place<0 then nth (nth x.orders i).load j else 0).sum
 | [],g=>Zb
 | i::L,g=>by
  rw [List.map_cons,List.foldl_cons,Int.toNat_natCast]
  by_cases h:(nth x.orders i).pick.place<0
  ·have e:Qe ((List.range d).map g) (nth x.orders i).load=(List.range d).map fun j=>g j+nth (nth x.orders i).load j:=by
    grind [Qe,List.map_congr_left,Y1]
   rw [if_pos h,e,Gb L]
   grind
  ·rw [if_neg h,Gb L]
   grind
theorem ET {x:Inst} {l:List Vis} (hi:Inr x l) (hn:x.orders.length<=10):DI x (dimsOf x.types).toNat (Xd ((Yn l:Nat):Int) 63) (Xd ((Yn l:Nat):Int) 63).length=Yb x l 0:=by
 rw [DI,List.take_length,cW hi hn];have:=Gb (x:=x) (d:=(dimsOf x.types).toNat) ((List.range x.orders.length).filter fun (i:Nat)=>Xx l (i:Int)) fun _=>0
 have e:(List.range (dimsOf x.types).toNat).map (fun _=>(0:Int))=List.replicate (dimsOf x.types).toNat 0:=by
  simp_all [List.map_const']
 rw [e] at this;rw [this,Yb];refine List.map_congr_left fun j _=> ?_;rw [Int.zero_add,VB,Q7]
 congr 1
 refine List.map_congr_left fun i _=> ?_
 grind [GU]
theorem HD {x:Inst} {l:List Vis} {n j:Nat} {d:Nat} (hj:j<d) (hld: ∀o∈x.orders,o.load.length=d/\ ∀n∈o.load,0<=n/\n<=1000) (hn:x.orders.length<=10):0<=Q7 x l n j/\Q7 x l n j<=10000:=by
 have key:=DK (f:=fun i=>if i<x.orders.length then (if (BC x l n i&&Xx l i)=true then nth (nth x.orders i).load j else 0) else 0) (b:=1000) Za (fun q=>by
  grind [Zp]) x.orders.length
 have e:Q7 x l n j=((List.range x.orders.length).map fun i=>if i<x.orders.length then (if (BC x l n i&&Xx l i)=true then nth (nth x.orders i).load j else 0) else 0).sum:=by
  simp_all [Q7,List.map_congr_left]
 omega
theorem Ff {x:Inst} {l:List Vis} {n j:Nat} (hj:j<(dimsOf x.types).toNat) (hd:LdOk x):0<=nth (Yb x l n) j/\nth (Yb x l n) j<=10000:=by
 rw [Yb,Y1 hj];exact HD hj (fun o ho=>by obtain ⟨h1,h2⟩:=hd.load o ho;grind) hd.ord
def Cx (c m o w:Int):AM.Obj:= .cells [.p (.int .i64 c),.p (.int .i64 m),.p (.int .i64 o),.p (.int .i64 w)]
theorem Ai {x:Inst} {l:List Vis} {t:Int} : ∀n:Nat,(0<=(chgF x l t n).1/\(chgF x l t n).1<=n)/\(0<=(chgF x l t n).2/\(chgF x l t n).2<=n)
 | 0=>by simp [chgF]
 | n+1=>by
  have ih:=Ai (x:=x) (l:=l) (t:=t) n
  grind [chgF]
theorem SqOk.len {x:Inst} {l:List Vis} (h:SqOk x l) (hn:x.orders.length<=10):l.length<=20:=by
 have h1:=List.Nodup.length_le_of_subset (l₁ :=l) (l₂ :=(List.range 10).flatMap fun i:Nat=> [(⟨(i:Int),false⟩:Vis),⟨(i:Int),true⟩]) h.nd (fun v hv=>by
  obtain ⟨v1,v2⟩:=h.inr v hv;rw [List.mem_flatMap];refine ⟨v.order.toNat,List.mem_range.2 Za,?_⟩;obtain ⟨o,d⟩:=v
  have e:((o.toNat:Nat):Int)=o:=by grind
  simp_all)
 have h2:((List.range 10).flatMap fun i:Nat=> [(⟨(i:Int),false⟩:Vis),⟨(i:Int),true⟩]).length=20:=rfl;omega
theorem SqOk.vis {x:Inst} {l:List Vis} (h:SqOk x l) {v:Vis} (hv:v∈l):LV x v=true:=by
 obtain ⟨v1,v2⟩:=h.inr v hv;obtain ⟨i,hi⟩: ∃i:Nat,v.order=(i:Int):=⟨v.order.toNat,Za⟩;have ho:=h.own (i:=i) ⟨v,hv,hi⟩
 have hpl:0<=(YC x v).place:=by
  unfold YC;rw [hi,Int.toNat_natCast]
  cases hd:v.drp with
  | true=>exact ho.isD (by rw [<- hi,<- hd];exact hv)
  | false=>exact ho.isP (by rw [<- hi,<- hd];exact hv)
 simp [LV,NO,v1,v2,hpl]
theorem Ld {n:Net} (h:netOk n):netR n/\ ∀a∈n.arcs,0<=a.miles/\a.miles<=10000:=by
 obtain ⟨⟨⟨h1,_⟩,h2⟩,h3⟩:=h
 have ha: ∀a∈n.arcs,MZ a/\0<=a.miles/\a.miles<=10000:=fun a hm=>by
  obtain ⟨i,hi,rfl⟩:=List.mem_iff_getElem.1 hm;have:=h3 i hi;unfold L8 at this;rw [Zh hi] at this;obtain ⟨⟨⟨⟨⟨_,g1⟩,_⟩,g2⟩,g3⟩,g4⟩:=this;refine ⟨⟨g2,g3,fun p hp=> ?_⟩,g1.2.2.1,g1.2.2.2.1⟩;obtain ⟨j,hj,rfl⟩:=List.mem_iff_getElem.1 hp
  simp_all [Hz,Zh,PO,rng]
 exact ⟨⟨Za,Za,fun a hm=>(ha a hm).1⟩,fun a hm=>(ha a hm).2⟩
theorem Bs {x:Inst} (hx:InstOk x) {i:Nat} (hi:i<x.types.length):(0<=(nth x.types i).opn/\(nth x.types i).opn<=(nth x.types i).cls/\(nth x.types i).cls<=4096)/\(1<=(nth x.types i).drive/\(nth x.types i).drive<=4096)/\(0<=(nth x.types i).rest/\(nth x.types i).rest<=4096) /\
  (0<=(nth x.types i).fixed/\(nth x.types i).fixed<=100000/\0<=(nth x.types i).perMile/\(nth x.types i).perMile<=100/\0<=(nth x.types i).perTick/\(nth x.types i).perTick<=100)/\(0<=(nth x.types i).skills/\(nth x.types i).skills<=1073741823):=by
 have ht:=hx.types.2 i hi
 simp_all [DM,rng]
theorem Br {x:Inst} {r:Rte} (hx:InstOk x) (ht:0<=r.typ/\r.typ<(x.types.length:Int)) (h:SqOk x r.visits):TrpOk x (ZR x r) (XC x r.visits):=by
 have hti:r.typ.toNat<x.types.length:=Za
 obtain ⟨t1,t2,t3,_⟩:=Bs hx hti;obtain ⟨n1,n2⟩:=Ld hx.net;refine ⟨n1,n2,t1,t2,t3,fun s hs=> ?_,by rw [X3];exact h.len hx.orders.1⟩;obtain ⟨v,hv,rfl⟩:=List.mem_map.1 hs;obtain ⟨v1,v2⟩:=h.inr v hv
 have hi:v.order.toNat<x.orders.length:=Za
 have ho:=hx.orders.2 _ hi;have hvis:=h.vis hv;have hp:=ho.pstp;have hd:=ho.dstp;simp only [stpOk,decide_eq_true_eq] at hp hd;simp only [LV,Bool.and_eq_true,decide_eq_true_eq] at hvis;have h3:=hvis.2;unfold YC at h3 ⊢
 grind
theorem A7 {x t sp} (h:TrpOk x t sp): ∀(bs:List Bool) (k:Nat) (L:Lab),k+bs.length=sp.length+1->LabR k L->(Xp x t sp k L bs).2=0->LabR (sp.length+1) (Xp x t sp k L bs).1/\(bs≠ []->(Xp x t sp k L bs).1.she.fin=(Xp x t sp k L bs).1.ready)
 | [],k,L,hk,hl,h0=>by
  simp at hk;subst hk;exact ⟨hl,fun h=>absurd rfl h⟩
 | b::bs,k,L,hk,hl,h0=>by
  simp at hk;rw [Xp] at h0 ⊢
  split at h0
  ·rename_i c;rw [if_pos c];obtain ⟨h1,h2⟩:=A7 h bs (k+1) _ Za (Dv h Za hl c) h0;refine ⟨h1,fun _=> ?_⟩
   cases bs with
   | nil =>
    simp at hk;subst hk;exact AT (x:=x) (t:=t) (sp:=sp) (y:=L) (b:=b) (by rw [Z2,if_pos c];rfl)
   | cons b2 bs=>grind
  omega
theorem FC {x t sp} {st:Int} {r:List Bool} (h:TrpOk x t sp) (hs:0<=st/\st<=4096) (hr:r.length<=sp.length+1) (h0:(Wy x t sp st r).2=0):(0<=(Wy x t sp st r).1.fin/\(Wy x t sp st r).1.fin<=8192)/\(0<=(Wy x t sp st r).1.miles/\(Wy x t sp st r).1.miles<=210000):=by
 have hL0:LabR 0 (Xf t st):=⟨by have:=h.opn;grind [Xf],by simp [Xf],by simp [Xf,zShe]⟩;have hl:=h.len
 have key: ∀bs∈YT r (sp.length+1),(Xp x t sp 0 (Xf t st) bs).2=0->(0<=(Xp x t sp 0 (Xf t st) bs).1.she.fin/\(Xp x t sp 0 (Xf t st) bs).1.she.fin<=8192)/\(0<=(Xp x t sp 0 (Xf t st) bs).1.she.miles/\(Xp x t sp 0 (Xf t st) bs).1.she.miles<=210000):=fun bs hbs he=>by
  obtain ⟨q,hq,rfl⟩:=List.mem_map.1 hbs;have hql:=bestF_len.fromB_len _ _ hq;simp at hql
  have hne:r++q≠ []:=fun e=>by
   simp_all
  obtain ⟨g1,g2⟩:=A7 h (r++q) 0 _ (by simp;omega) hL0 he;rw [g2 hne];have:=g1.rdy;have:=g1.mil;omega
 unfold Wy at h0 ⊢
 cases hf:YD X0 none ((YT r (sp.length+1)).filterMap (Vz (Z2 x t sp) 0 (Xf t st))) with
 | some L =>
  simp only;have:=bestF_len.fmL_mem _ _ hf
  grind [WS]
 | none =>
  grind [zShe]
theorem Q9 {g:FuncId} {args:List V} {a b c:PV} {H:List AM.Obj} {K:V->List AM.Obj->Prop} (h:ACalls Tryz.prog g args [] fun x H'=>x= .tup [.p a,.p b,.p c]/\H'= []) (k:K (.tup [.p a,.p b,.p c]) H) (ha:ZA 0 args=true:=by rfl):ACalls Tryz.prog g args H K:=HF h k ha
def Aq (x:Inst) (r:Rte):V:= .tup [.p (Ek (De x r)),.p (II (Dd x r)),.p (.int .i64 (Z6 x r))]
theorem Yt {x:Inst} {r:Rte} {e:Int} (h:Z6 x r=e) (h0:e≠0):Aq x r= .tup [.p (Ek zShe),.p (II zSco),.p (.int .i64 e)]:=by
 simp_all [Aq,De,Dd]
def Mq {α:Type} (f:α->Bool) (l:List α):Int:=match l.findIdx? f with | some i=>(i:Int) | none=> -1
theorem Gd {α:Type} [Inhabited α] {f:α->Bool} {l:List α} {k:Nat} (hk:k<l.length) (h:f (nth l k)=true) (hno: ∀j,j<k->f (nth l j)=false):Mq f l=(k:Int):=by
 have:l.findIdx? f=some k:=by
  grind [List.findIdx?_eq_some_iff_getElem,Zh]
 simp [Mq,this]
theorem Gf {α:Type} [Inhabited α] {f:α->Bool} {l:List α} (hno: ∀j,j<l.length->f (nth l j)=false):Mq f l= -1:=by
 have:l.findIdx? f=none:=by
  rw [List.findIdx?_eq_none_iff];intro x hx;obtain ⟨j,hj,rfl⟩:=List.mem_iff_getElem.1 hx
  grind [Zh]
 simp [Mq,this]
theorem Ge {α:Type} {f:α->Bool} {l:List α} :decide (0<=Mq f l)=l.any f:=by
 grind [Mq]
theorem Es (l:List (List Int)) (c:Bool) (g:FuncId) (caps:List V) (H:List AM.Obj) (f:List Int->Bool) (hl:l.length<=1048576) (hW:Bx H H.length H H) (hc:ZA H.length caps=true)
  (hg: ∀v∈l,ACalls Tryz.prog g (.p (Mo v)::caps) H fun x H'=>x= .p (.bool (f v))/\H'=H) :
  ACalls Tryz.prog 221 [.p (.list c (l.map Mo)),.fn (.func g) [] caps] H fun x H'=>x= .p (.int .i64 (Mq f l))/\H'=H:=by
 refine Xa Tryz.func221 rfl OM (Ze [] _ _ _ _ ?_);simp (disch:=omega) only [Tryz.f221,go_sem,seval];refine Zl [0,1,7] (fun k:Nat=> [(8,.p (.int .i64 k))]) (fun _=>H) (fun k=>k<=l.length/\ ∀j,j<k->f (nth l j)=false) (fun k=>l.length-k) 0 Zb (Weak.mk ?_) ?_
 ·simp (disch:=omega) only [hW,hc,go_sem,seval];simp
 ·rintro k ⟨hk,hno⟩;refine Zi ?_;refine cD ?_ ?_<;>intro h<;>simp (disch:=omega) only [Sh.out h,go_sem,seval,↓reduceIte]
  ·have hk2:k<l.length:=Za
   have hgk:=hg (nth l k) (Xe hk2);simp (disch:=omega) only [Nz,go_sem,seval] at hgk;refine hgk.useH (Zi ?_);refine cD ?_ ?_<;>intro h2<;>simp (disch:=omega) only [Sh.out h2,go_sem,seval,↓reduceIte]
   ·grind [Gd]
   ·have h3:f (nth l k)=false:=Za
    refine ⟨k+1,⟨Za,Zo.2 ⟨hno,h3⟩⟩,Za,Weak.mk ?_⟩;simp (disch:=omega) only [hW,hc,go_sem,seval];simp
  grind [Gf]
theorem Kr (l:List (List Int)) (c:Bool) (g:FuncId) (caps:List V) (H:List AM.Obj) (f:List Int->Bool) (hl:l.length<=1048576) (hW:Bx H H.length H H) (hc:ZA H.length caps=true)
  (hg: ∀v∈l,ACalls Tryz.prog g (.p (Mo v)::caps) H fun x H'=>x= .p (.bool (f v))/\H'=H) :
  ACalls Tryz.prog 188 [.p (.list c (l.map Mo)),.fn (.func g) [] caps] H fun x H'=>x= .p (.bool (l.any f))/\H'=H:=by
 refine Xa Tryz.func188 rfl Ot (Ze [] _ _ _ _ ?_);simp (disch:=omega) only [Tryz.f188,go_sem,seval];refine (Es l c g caps H f hl hW hc hg).useH (Zi ?_);rw [Ge]
theorem G5 (x:Inst) (r:Rte) (hx:InstOk x) (hl:r.visits.length<=1048576):PC 153 [.p (XW x),.p (XS r)] (.int .i64 (Z3 x r.visits)):=by
 have hf:=Et hx;obtain ⟨h1,h2⟩:=List.append_eq_nil_iff.1 hx.rules
 have ha:x.apart.length<=1048576:=by
  have h3:=(List.append_eq_nil_iff.1 h1).1
  grind [lL]
 have hb:x.before.length<=1048576:=by
  have h3:=(List.append_eq_nil_iff.1 h2).1
  grind [lL]
 exact CA x r (by have:=hf.len;omega) hl ha hb
theorem DA {x:Inst} {l:List Vis} (hi:Inr x l) (hn:x.orders.length<=10):KE l=(((Yn l:Nat):Int),0):=by
 rw [KE,if_pos];rw [List.all_eq_true];intro v hv;have:=hi v hv;simp [HV];omega
theorem pO {α:Type} (f:Nat->α) (n:Nat):(List.range n).map f++ [f n]=(List.range (n+1)).map f:=by grind [List.range_succ]
theorem V7 {P Q:Prop} (h:Q) (e:Q->P:=by intro h;simp (disch:=omega) only [List.map_cons,List.map_nil,List.set_cons_succ,List.set_cons_zero,go_sem,seval];exact h):P:=e h
theorem G2 (x:Inst) (r:Rte) (hx:InstOk x) (hl:r.visits.length<=1048576) (h0:Z3 x r.visits=0) :
  PT 116 [.p (XW x),.p (XS r)] [.p (.list false ((QK x r.visits).map Mo)),.p (.int .i64 0)]:=by
 have hd:=VO hx;have hsq:=Wg h0;have hol:=hd.ord;have hso:=WT r hl;rw [DA hsq.inr hol] at hso
 have hD:dimsOf x.types=((dimsOf x.types).toNat:Int):=by have:=hd.dim;omega
 have cd:=Ll x.types x.types_c hd.typ;rw [hD] at cd;have hst:=ET hsq.inr hol
 have hmem: ∀i∈Xd ((Yn r.visits:Nat):Int) 63,0<=i/\i<(x.orders.length:Int):=fun i hi=>by
  rw [cW hsq.inr hol] at hi
  grind
 have cs:=LK x ((Yn r.visits:Nat):Int) (dimsOf x.types).toNat (by have:=hd.dim;omega) Za hmem (AK _ _) (fun o ho=>by have:=hd.load o ho;grind);rw [hst] at cs;refine Zd [20] Tryz.func116 rfl NS ?_;simp (disch:=omega) only [Tryz.f116,go_sem,seval];refine (G5 x r hx hl).use (Zi ?_);simp (disch:=omega) only [h0,go_sem,seval];refine XI hso (Zi ?_);refine Yl (Zi ?_);refine ZN (cd) (Zi ?_);refine ZN (cs) (Zi ?_);refine ZI [20] [2,37,38] (fun q:Nat×List (List Int)=> [(9,.p (.list false ((Yb x r.visits q.1).map eI))),(10,.sl 2 0 q.2.length q.2.length),(39,.p (.int .i64 q.1))]) (fun q=> [Zj x,Zy r,.elems 1 (q.2.map Mo)]) (fun q=>q.1<=r.visits.length/\q.2=(List.range (q.1+1)).map (Yb x r.visits)) (fun q=>r.visits.length-q.1) (0,[Yb x r.visits 0]) Zb (Weak.mk ?_) ?_
 ·simp (disch:=omega) only [Zj,Zy,List.map_nil,List.map_cons,List.length_nil,List.length_cons,go_sem,seval]
 ·rintro ⟨k,o⟩ ⟨hk,ho⟩;simp only at hk ho
  have hol2:o.length=k+1:=by rw [ho];simp
  refine J2 ?_;refine cD ?_ ?_<;>intro h1<;>simp (disch:=omega) only [Sh.out h1,go_sem,seval,↓reduceIte]
  ·have hk2:k<r.visits.length:=Za
   obtain ⟨v1,v2⟩:=hsq.inr _ (Xe hk2)
   have hi:(nth r.visits k).order.toNat<x.orders.length:=Za
   obtain ⟨l1,l2⟩:=hd.load _ (Zp hi);have hsu:=DX hsq hk2;have hal:=K1 (x:=x) (l:=r.visits) (n:=k);have hdm:=hd.dim
   have hrg: ∀j,j<(Yb x r.visits k).length-> -1073741824<=nth (Yb x r.visits k) j/\nth (Yb x r.visits k) j<=1073741824/\ -1073741824<=nth (nth x.orders (nth r.visits k).order.toNat).load j/\nth (nth x.orders (nth r.visits k).order.toNat).load j<=1073741824:=fun j hj=>by
    have b1:=Ff (x:=x) (l:=r.visits) (n:=k) (j:=j) Za hd
    grind [Zp]
   refine cD ?_ ?_<;>intro h2<;>simp (disch:=omega) only [Sh.out h2,go_sem,seval,↓reduceIte]
   ·rw [if_pos h2] at hsu;refine XI (Po (Yb x r.visits k) (nth x.orders (nth r.visits k).order.toNat).load false (nth x.orders (nth r.visits k).order.toNat).load_c Za Za hrg) (Zi ?_);exact ⟨(k+1,o++ [Yb x r.visits (k+1)]),⟨Za,by grind⟩,Za,Weak.mk (by simp (disch:=omega) only [hsu,List.length_append,List.length_cons,List.length_nil,List.map_append,List.map_cons,List.map_nil,go_sem,seval])⟩
   ·rw [if_neg (by rw [h2];simp)] at hsu;refine XI (GZ (Yb x r.visits k) (nth x.orders (nth r.visits k).order.toNat).load false (nth x.orders (nth r.visits k).order.toNat).load_c Za Za hrg) (Zi ?_);exact ⟨(k+1,o++ [Yb x r.visits (k+1)]),⟨Za,by grind⟩,Za,Weak.mk (by simp (disch:=omega) only [hsu,List.length_append,List.length_cons,List.length_nil,List.map_append,List.map_cons,List.map_nil,go_sem,seval])⟩
  ·have hkl:k=r.visits.length:=Za
   subst hkl;refine Zz (Weak.fz (o:=2) (by rfl)) (Ze [] _ _ _ _ (V7 ?_));rw [QK,<- ho];exact we
theorem IS (x:Inst) (r:Rte) (a:List Int) (htl:x.types.length<=1048576) (hty:0<=r.typ/\r.typ<(x.types.length:Int)) (ha:a.length<=1048576) (hc:(ZR x r).cap.length<=1048576) :
  ACalls Tryz.prog 189 [.p (Mo a),.ptr 0 0,.ptr 1 0] [Zj x,Zy r] fun y H'=>y= .p (.bool (!UR a (ZR x r).cap))/\H'= [Zj x,Zy r]:=by
 have hti:r.typ.toNat<x.types.length:=Za
 refine Zd [] Tryz.func189 rfl Ou ?_;simp (disch:=omega) only [Tryz.f189,Zj,Zy,go_sem,seval];refine (Ln a (ZR x r).cap false (ZR x r).cap_c ha hc).use (Zi ?_);exact we
theorem G0 (x:Inst) (r:Rte) (hx:InstOk x) (hl:r.visits.length<=1048576) (hty:0<=r.typ/\r.typ<(x.types.length:Int)) (h0:Z3 x r.visits=0) :
  PC 155 [.p (XW x),.p (XS r)] (.int .i64 (if QJ x (ZR x r).cap r.visits=true then 0 else 17)):=by
 have hd:=VO hx;have htl:=hd.typ
 have hti:r.typ.toNat<x.types.length:=Za
 have hcp:(ZR x r).cap.length<=1048576:=by
  have hcap:=hx.types.2 _ hti;unfold DM at hcap;obtain ⟨⟨⟨⟨⟨⟨⟨⟨_,_⟩,_⟩,_⟩,hcap⟩,_⟩,_⟩,_⟩,_⟩:=hcap;simp only [FF,Bool.and_eq_true,decide_eq_true_eq,rng] at hcap;unfold ZR;omega
 have hll:(QK x r.visits).length=r.visits.length+1:=by simp [QK]
 have hvl:=(Wg h0).len hd.ord
 have Z5:(QK x r.visits).any (fun a=> !UR a (ZR x r).cap)= !QJ x (ZR x r).cap r.visits:=by
  grind [QJ,QK]
 have e1: ¬r.typ<0:=Za
 have e2: ¬(x.types.length:Int)<=r.typ:=Za
 refine Zc Tryz.func155 rfl N5 ?_;simp (disch:=omega) only [Tryz.f155,e1,e2,go_sem,seval];refine XI (G2 x r hx hl h0) (Zi ?_);refine (Kr (QK x r.visits) false 189 [.ptr 0 0,.ptr 1 0] [Zj x,Zy r] (fun a=> !UR a (ZR x r).cap) Za (by simp (disch:=omega) only [Zj,Zy,go_sem,seval]) (by rfl) (fun a ha=>IS x r a htl hty ?_ hcp)).useH ?_
 ·obtain ⟨j,_,rfl⟩:=List.mem_map.1 ha;rw [K1];have:=hd.dim;omega
 ·refine J2 ?_;rw [Z5];refine cD ?_ ?_<;>intro h1<;>simp (disch:=omega) only [Sh.out h1,go_sem,seval]
  ·grind
  grind
theorem Yw {β:Type} [Inhabited β] {a b:List β} (hl:a.length=b.length) (h: ∀j,j<a.length->nth a j=nth b j):a=b:=by
 grind [List.ext_getElem,Zh]
theorem FU (a b:List Int) (c d:Bool) (ha:a.length<=1048576) (hb:b.length<=1048576):PC 63 [.p (.list c (a.map eI)),.p (.list d (b.map eI))] (.bool (decide (a=b))):=by
 refine Zc Tryz.func63 rfl bX ?_;simp (disch:=omega) only [Tryz.f63,go_sem,seval];refine cD ?_ ?_<;>intro h1<;>simp (disch:=omega) only [Sh.out h1,go_sem,seval]
 ·rw [decide_eq_false fun e=>h1 (by rw [e])]
 ·have hl:a.length=b.length:=Za
  refine Zl [0,1,12] (fun k:Nat=> [(13,.p (.int .i64 k))]) (fun _=> []) (fun k=>k<=a.length/\ ∀j,j<k->nth a j=nth b j) (fun k=>a.length-k) 0 Zb (Weak.mk ?_) ?_
  ·simp (disch:=omega) only [go_sem,seval]
  ·rintro k ⟨hk,hno⟩;simp (disch:=omega) only [go_sem,seval];refine cD ?_ ?_<;>intro h2<;>simp (disch:=omega) only [Sh.out h2,go_sem,seval]
   ·have hk2:k<a.length:=Za
    refine Yl ?_;simp (disch:=omega) only [go_sem,seval];refine cD ?_ ?_<;>intro h3<;>simp (disch:=omega) only [Sh.out h3,go_sem,seval]
    ·rw [decide_eq_false fun e=>h3 (by rw [e])]
    ·exact ⟨k+1,⟨Za,Zo.2 ⟨hno,Za⟩⟩,Za,wk⟩
   ·rw [decide_eq_true (Yw hl fun j hj=>hno j Za)]
theorem FT (a b:List Bool) (c d:Bool) (ha:a.length<=1048576) (hb:b.length<=1048576):PC 104 [.p (.list c (a.map eB)),.p (.list d (b.map eB))] (.bool (decide (a=b))):=by
 refine Zc Tryz.func104 rfl NP ?_;simp (disch:=omega) only [Tryz.f104,go_sem,seval];refine cD ?_ ?_<;>intro h1<;>simp (disch:=omega) only [Sh.out h1,go_sem,seval]
 ·rw [decide_eq_false fun e=>h1 (by rw [e])]
 ·have hl:a.length=b.length:=Za
  refine Zl [0,1,12] (fun k:Nat=> [(13,.p (.int .i64 k))]) (fun _=> []) (fun k=>k<=a.length/\ ∀j,j<k->nth a j=nth b j) (fun k=>a.length-k) 0 Zb (Weak.mk ?_) ?_
  ·simp (disch:=omega) only [go_sem,seval,↓reduceIte]
  ·rintro k ⟨hk,hno⟩;refine Zi ?_;refine cD ?_ ?_<;>intro h2<;>simp (disch:=omega) only [Sh.out h2,go_sem,seval,↓reduceIte]
   ·have hk2:k<a.length:=Za
    refine Yl (Zi ?_);refine cD ?_ ?_<;>intro h3<;>simp (disch:=omega) only [Sh.out h3,go_sem,seval,↓reduceIte]
    ·rw [decide_eq_false fun e=>by grind]
    ·exact ⟨k+1,⟨Za,Zo.2 ⟨hno,by grind⟩⟩,Za,wk⟩
   grind [Yw]
theorem FW (a b:List Vis) (c d:Bool) (ha:a.length<=1048576) (hb:b.length<=1048576):PC 105 [.p (.list c (a.map ZW)),.p (.list d (b.map ZW))] (.bool (decide (a=b))):=by
 refine Zc Tryz.func105 rfl NQ ?_;simp (disch:=omega) only [Tryz.f105,go_sem,seval];refine cD ?_ ?_<;>intro h1<;>simp (disch:=omega) only [Sh.out h1,go_sem,seval]
 ·rw [decide_eq_false fun e=>h1 (by rw [e])]
 ·have hl:a.length=b.length:=Za
  refine Zl [0,1,12] (fun k:Nat=> [(13,.p (.int .i64 k))]) (fun _=> []) (fun k=>k<=a.length/\ ∀j,j<k->nth a j=nth b j) (fun k=>a.length-k) 0 Zb (Weak.mk ?_) ?_
  ·simp (disch:=omega) only [go_sem,seval,↓reduceIte]
  ·rintro k ⟨hk,hno⟩;refine Zi ?_;refine cD ?_ ?_<;>intro h2<;>simp (disch:=omega) only [Sh.out h2,go_sem,seval,↓reduceIte]
   ·have hk2:k<a.length:=Za
    refine Yl (Zi ?_);refine cD ?_ ?_<;>intro h3<;>simp (disch:=omega) only [Sh.out h3,go_sem,seval,↓reduceIte]
    ·rw [decide_eq_false fun e=>by grind]
    ·exact ⟨k+1,⟨Za,Zo.2 ⟨hno,CK.2 (by grind)⟩⟩,Za,wk⟩
   grind [Yw]
def YB (a b:Rte):Bool:=decide (a.typ=b.typ)&&(decide (a.start=b.start)&&(decide (a.rests=b.rests)&&decide (a.visits=b.visits)))
theorem LF (a b:Rte) (ha:UH a) (hb:UH b):PC 62 [.p (XS a),.p (XS b)] (.bool (YB a b)):=by
 obtain ⟨a1,a2⟩:=ha;obtain ⟨b1,b2⟩:=hb;refine Zc Tryz.func62 rfl bW ?_;simp (disch:=omega) only [Tryz.f62,go_sem,seval];unfold YB;refine gT ?_ ?_<;>intro h1<;>simp (disch:=omega) only [Sh.out h1,go_sem,seval];rw [decide_eq_true h1,Bool.true_and];refine gT ?_ ?_<;>intro h2<;>simp (disch:=omega) only [Sh.out h2,go_sem,seval];rw [decide_eq_true h2,Bool.true_and];refine (FT a.rests b.rests a.rests_c b.rests_c a2 b2).use ?_;simp (disch:=omega) only [go_sem,seval];refine gT ?_ ?_<;>intro h3<;>simp (disch:=omega) only [Sh.out h3,go_sem,seval]
 rw [decide_eq_true h3,Bool.true_and];refine (FW a.visits b.visits a.visits_c b.visits_c a1 b1).use ?_;simp (disch:=omega) only [go_sem,seval]
theorem FV (a b:List Rte) (c d:Bool) (ha:a.length<=1048576) (hb:b.length<=1048576) (h1: ∀r∈a,UH r) (h2: ∀r∈b,UH r) :
  PC 61 [.p (.list c (a.map XS)),.p (.list d (b.map XS)),.fn (.func 62) [] []] (.bool (decide (a.length=b.length)&&(List.range a.length).all fun k=>YB (nth a k) (nth b k))):=by
 refine Zc Tryz.func61 rfl bV ?_;simp (disch:=omega) only [Tryz.f61,go_sem,seval];refine cD ?_ ?_<;>intro h3<;>simp (disch:=omega) only [Sh.out h3,go_sem,seval]
 ·rw [decide_eq_false fun e=>h3 (by rw [e]),Bool.false_and]
 ·have hl:a.length=b.length:=Za
  rw [decide_eq_true hl,Bool.true_and];refine Zl [1,2,15,16] (fun k:Nat=> [(17,.p (.int .i64 k))]) (fun _=> []) (fun k=>k<=a.length/\ ∀j,j<k->YB (nth a j) (nth b j)=true) (fun k=>a.length-k) 0 Zb (Weak.mk ?_) ?_
  ·simp (disch:=omega) only [go_sem,seval]
  ·rintro k ⟨hk,hno⟩;simp (disch:=omega) only [go_sem,seval];refine cD ?_ ?_<;>intro h4<;>simp (disch:=omega) only [Sh.out h4,go_sem,seval]
   ·have hk2:k<a.length:=Za
    refine (LF (nth a k) (nth b k) (h1 _ (Zp hk2)) (h2 _ (Zp Za))).use ?_;simp (disch:=omega) only [go_sem,seval]
    cases hs:YB (nth a k) (nth b k) with
    | false =>
     rw [List.all_eq_false.2 ⟨k,List.mem_range.2 hk2,by rw [hs];simp⟩];simp (disch:=omega) only [hs,Bool.not_false,go_sem,seval]
    | true =>
     simp (disch:=omega) only [hs,Bool.not_true,Bool.false_eq_true,go_sem,seval];exact ⟨k+1,⟨Za,Zo.2 ⟨hno,hs⟩⟩,Za,wk⟩
   ·rw [List.all_eq_true.2 fun j hj=>hno j (by have:=List.mem_range.1 hj;omega)]
def V3 (p q:Pln):Bool:=(decide (p.routes.length=q.routes.length)&&(List.range p.routes.length).all fun k=>YB (nth p.routes k) (nth q.routes k))&&decide (p.unserved=q.unserved)
theorem Lo (p q:Pln) (hp:p.routes.length<=1048576/\p.unserved.length<=1048576/\ ∀r∈p.routes,UH r) (hq:q.routes.length<=1048576/\q.unserved.length<=1048576/\ ∀r∈q.routes,UH r) :
  PC 24 [.p (Va p),.p (Va q)] (.bool (V3 p q)):=by
 refine Zc Tryz.func24 rfl bF ?_;simp (disch:=omega) only [Tryz.f24,go_sem,seval];unfold V3;have ce:=FV p.routes q.routes p.routes_c q.routes_c hp.1 hq.1 hp.2.2 hq.2.2
 generalize (decide (p.routes.length=q.routes.length)&&(List.range p.routes.length).all fun k=>YB (nth p.routes k) (nth q.routes k))=e at *
 refine (ce).use ?_;simp (disch:=omega) only [go_sem,seval]
 cases e with
 | false=>simp (disch:=omega) only [Bool.false_and,go_sem,seval]
 | true =>
  rw [Bool.true_and];simp (disch:=omega) only [go_sem,seval];refine (FU p.unserved q.unserved p.unserved_c q.unserved_c hp.2.1 hq.2.1).use ?_;simp (disch:=omega) only [go_sem,seval]
theorem UI {a b:Rte} :YB a b=true↔a.typ=b.typ/\a.start=b.start/\a.rests=b.rests/\a.visits=b.visits:=by
 simp [YB]
theorem Jn (a b:Rte) (ha:UH a) (hb:UH b):PC 48 [.p (XS a),.p (XS b)] (.bool (YB a b)):=by
 obtain ⟨a1,a2⟩:=ha;obtain ⟨b1,b2⟩:=hb
 have no:(a.typ=b.typ/\a.start=b.start/\a.rests=b.rests/\a.visits=b.visits->False)->YB a b=false:=fun h=>by
  grind [UI]
 refine Zc Tryz.func48 rfl bT ?_;simp (disch:=omega) only [Tryz.f48,go_sem,seval];refine gF ?_ ?_<;>intro h1<;>simp (disch:=omega) only [Sh.out h1,go_sem,seval,↓reduceIte]
 ·grind
 ·refine gF ?_ ?_<;>intro h2<;>simp (disch:=omega) only [Sh.out h2,go_sem,seval,↓reduceIte]
  ·grind
  ·refine gF ?_ ?_<;>intro h3<;>simp (disch:=omega) only [Sh.out h3,go_sem,seval,↓reduceIte]
   ·grind
   ·refine cD ?_ ?_<;>intro h4<;>simp (disch:=omega) only [Sh.out h4,go_sem,seval]
    ·grind
    ·have l1:a.rests.length=b.rests.length:=Za
     have l2:a.visits.length=b.visits.length:=Za
     refine Zl [2,3] (fun k:Nat=> [(5,.p (.int .i64 k))]) (fun _=> [Zy a,Zy b]) (fun k=>k<=a.rests.length/\ ∀j,j<k->nth a.rests j=nth b.rests j) (fun k=>a.rests.length-k) 0 Zb (Weak.mk ?_) ?_
     ·simp (disch:=omega) only [Zy,go_sem,seval]
     ·rintro k ⟨hk,hno⟩;simp (disch:=omega) only [Zy,go_sem,seval];refine cD ?_ ?_<;>intro h5<;>simp (disch:=omega) only [Sh.out h5,go_sem,seval,↓reduceIte]
      ·have hk2:k<a.rests.length:=Za
       refine Yl (Zi ?_);refine XQ ?_ ?_<;>intro h6
       ·grind
       ·exact ⟨k+1,⟨Za,Zo.2 ⟨hno,by grind⟩⟩,Za,wk⟩
      ·have e1:a.rests=b.rests:=Yw l1 fun j hj=>hno j Za;refine Zl [2,3] (fun k:Nat=> [(6,.p (.int .i64 k))]) (fun _=> [Zy a,Zy b]) (fun k=>k<=a.visits.length/\ ∀j,j<k->nth a.visits j=nth b.visits j) (fun k=>a.visits.length-k) 0 Zb (Weak.mk ?_) ?_
       ·simp (disch:=omega) only [Zy,go_sem,seval]
       ·rintro k ⟨hk,hno2⟩;simp (disch:=omega) only [Zy,go_sem,seval];refine cD ?_ ?_<;>intro h7<;>simp (disch:=omega) only [Sh.out h7,go_sem,seval,↓reduceIte]
        ·have hk2:k<a.visits.length:=Za
         refine Yl (Zi ?_);refine XQ ?_ ?_<;>intro h8
         ·grind
         ·exact ⟨k+1,⟨Za,Zo.2 ⟨hno2,CK.2 (by grind)⟩⟩,Za,wk⟩
        grind [UI,Yw]
theorem V4 {p q:Pln} (h:(p.routes.length=q.routes.length/\(∀k,k<p.routes.length->YB (nth p.routes k) (nth q.routes k)=true)/\p.unserved=q.unserved)->False):V3 p q=false:=by
 simp_all [V3]
theorem J0 {p q:Pln} (h1:p.routes.length=q.routes.length) (h2: ∀k,k<p.routes.length->YB (nth p.routes k) (nth q.routes k)=true) (h3:p.unserved=q.unserved):V3 p q=true:=by
 simp_all [V3]
theorem Hw (p q:Pln) (hp:p.routes.length<=1048576/\p.unserved.length<=1048576/\ ∀r∈p.routes,UH r) (hq:q.routes.length<=1048576/\q.unserved.length<=1048576/\ ∀r∈q.routes,UH r) :
  PC 20 [.p (Va p),.p (Va q)] (.bool (V3 p q)):=by
 have p1:=hp.1;have p2:=hp.2.1;refine Zc Tryz.func20 rfl bE ?_;simp (disch:=omega) only [Tryz.f20,go_sem,seval];refine gF ?_ ?_<;>intro h1<;>simp (disch:=omega) only [Sh.out h1,go_sem,seval,↓reduceIte]
 ·grind [V4]
 ·refine cD ?_ ?_<;>intro h2<;>simp (disch:=omega) only [Sh.out h2,go_sem,seval]
  ·grind [V4]
  ·have l1:p.routes.length=q.routes.length:=Za
   have l2:p.unserved.length=q.unserved.length:=Za
   refine Zl [2,3] (fun k:Nat=> [(5,.p (.int .i64 k))]) (fun _=> [Zv p,Zv q]) (fun k=>k<=p.routes.length/\ ∀j,j<k->YB (nth p.routes j) (nth q.routes j)=true) (fun k=>p.routes.length-k) 0 Zb (Weak.mk ?_) ?_
   ·simp (disch:=omega) only [Zv,go_sem,seval]
   ·rintro k ⟨hk,hno⟩;simp (disch:=omega) only [Zv,go_sem,seval];refine cD ?_ ?_<;>intro h5<;>simp (disch:=omega) only [Sh.out h5,go_sem,seval,↓reduceIte]
    ·have hk2:k<p.routes.length:=Za
     refine Yl (Zi ?_);refine ZN (Jn (nth p.routes k) (nth q.routes k) (hp.2.2 _ (Zp hk2)) (hq.2.2 _ (Zp Za))) (Zi ?_)
     cases hs:YB (nth p.routes k) (nth q.routes k) with
     | false =>
      rw [V4 fun h=>by grind];simp (disch:=omega) only [Bool.not_false,go_sem,seval]
     | true =>
      simp (disch:=omega) only [Bool.not_true,go_sem,seval];exact ⟨k+1,⟨Za,Zo.2 ⟨hno,hs⟩⟩,Za,wk⟩
    ·refine Zl [2,3] (fun k:Nat=> [(6,.p (.int .i64 k))]) (fun _=> [Zv p,Zv q]) (fun k=>k<=p.unserved.length/\ ∀j,j<k->nth p.unserved j=nth q.unserved j) (fun k=>p.unserved.length-k) 0 Zb (Weak.mk ?_) ?_
     ·simp (disch:=omega) only [Zv,go_sem,seval]
     ·rintro i ⟨hi,hno2⟩;simp (disch:=omega) only [Zv,go_sem,seval];refine cD ?_ ?_<;>intro h7<;>simp (disch:=omega) only [Sh.out h7,go_sem,seval,↓reduceIte]
      ·have hk2:i<p.unserved.length:=Za
       refine Yl (Zi ?_);refine XQ ?_ ?_<;>intro h8
       ·grind [V4]
       ·exact ⟨i+1,⟨Za,Zo.2 ⟨hno2,Za⟩⟩,Za,wk⟩
      grind [J0,Yw]
def Ao (x:Inst) (t:Typ) (r:Rte) (c:Bool) (sp:List Stp):PV:= .agg [.list x.net.places_c (x.net.places.map eS),.list x.net.arcs_c (x.net.arcs.map VJ),.list x.types_c (x.types.map Jj),.list x.orders_c (x.orders.map Wr),.list x.apart_c (x.apart.map eP),.list x.before_c (x.before.map eP),.str t.name,.int .i64 t.count,.int .i64 t.src,.int .i64 t.dst,.list t.cap_c (t.cap.map eI),.int .i64 t.skills,.int .i64 t.prof,.int .i64 t.opn,.int .i64 t.cls,.int .i64 t.drive,.int .i64 t.rest,.int .i64 t.fixed,.int .i64 t.perMile,.int .i64 t.perTick,.int .i64 r.typ,.int .i64 r.start,.list r.rests_c (r.rests.map eB),.list r.visits_c (r.visits.map ZW),.list c (sp.map BX)]
@[go_sem] theorem gX (x:Inst) (t:Typ) (r:Rte) (c:Bool) (sp:List Stp):Ao x t r c sp= .agg [.list x.net.places_c (x.net.places.map eS),.list x.net.arcs_c (x.net.arcs.map VJ),.list x.types_c (x.types.map Jj),.list x.orders_c (x.orders.map Wr),.list x.apart_c (x.apart.map eP),.list x.before_c (x.before.map eP),.str t.name,.int .i64 t.count,.int .i64 t.src,.int .i64 t.dst,.list t.cap_c (t.cap.map eI),.int .i64 t.skills,.int .i64 t.prof,.int .i64 t.opn,.int .i64 t.cls,.int .i64 t.drive,.int .i64 t.rest,.int .i64 t.fixed,.int .i64 t.perMile,.int .i64 t.perTick,.int .i64 r.typ,.int .i64 r.start,.list r.rests_c (r.rests.map eB),.list r.visits_c (r.visits.map ZW),.list c (sp.map BX)]:=Eq.trans rfl rfl
def PS (x:Inst) (t:Typ) (r:Rte):List V:= [.p (.list x.net.places_c (x.net.places.map eS)),.p (.list x.net.arcs_c (x.net.arcs.map VJ)),.p (.list x.types_c (x.types.map Jj)),.p (.list x.orders_c (x.orders.map Wr)),.p (.list x.apart_c (x.apart.map eP)),.p (.list x.before_c (x.before.map eP)),.p (.str t.name),.p (.int .i64 t.count),.p (.int .i64 t.src),.p (.int .i64 t.dst),.p (.list t.cap_c (t.cap.map eI)),.p (.int .i64 t.skills),.p (.int .i64 t.prof),.p (.int .i64 t.opn),.p (.int .i64 t.cls),.p (.int .i64 t.drive),.p (.int .i64 t.rest),.p (.int .i64 t.fixed),.p (.int .i64 t.perMile),.p (.int .i64 t.perTick),.p (.int .i64 r.typ),.p (.int .i64 r.start),.p (.list r.rests_c (r.rests.map eB)),.p (.list r.visits_c (r.visits.map ZW))]
def Z8 (x:Inst) (t:Typ) (r:Rte) (c:Bool) (sp:List Stp):AM.Obj:= .cells [.p (.list x.net.places_c (x.net.places.map eS)),.p (.list x.net.arcs_c (x.net.arcs.map VJ)),.p (.list x.types_c (x.types.map Jj)),.p (.list x.orders_c (x.orders.map Wr)),.p (.list x.apart_c (x.apart.map eP)),.p (.list x.before_c (x.before.map eP)),.p (.str t.name),.p (.int .i64 t.count),.p (.int .i64 t.src),.p (.int .i64 t.dst),.p (.list t.cap_c (t.cap.map eI)),.p (.int .i64 t.skills),.p (.int .i64 t.prof),.p (.int .i64 t.opn),.p (.int .i64 t.cls),.p (.int .i64 t.drive),.p (.int .i64 t.rest),.p (.int .i64 t.fixed),.p (.int .i64 t.perMile),.p (.int .i64 t.perTick),.p (.int .i64 r.typ),.p (.int .i64 r.start),.p (.list r.rests_c (r.rests.map eB)),.p (.list r.visits_c (r.visits.map ZW)),.p (.list c (sp.map BX))]
def PY : AM.Obj:= .cells [.p (.list true []),.p (.list true []),.p (.list true []),.p (.list true []),.p (.list true []),.p (.list true []),.p (.str []),.p (.int .i64 0),.p (.int .i64 0),.p (.int .i64 0),.p (.list true []),.p (.int .i64 0),.p (.int .i64 0),.p (.int .i64 0),.p (.int .i64 0),.p (.int .i64 0),.p (.int .i64 0),.p (.int .i64 0),.p (.int .i64 0),.p (.int .i64 0),.p (.int .i64 0),.p (.int .i64 0),.p (.list true []),.p (.list true []),.p (.list true [])]
def Y8 (L:Lab):PV:= .agg [.int .i64 L.ready,.int .i64 L.since,.bool L.she.rest,.int .i64 L.she.dep,.list L.she.times_c (L.she.times.map eTim),.int .i64 L.she.fin,.int .i64 L.she.miles]
@[go_sem] theorem gN (L:Lab):Y8 L= .agg [.int .i64 L.ready,.int .i64 L.since,.bool L.she.rest,.int .i64 L.she.dep,.list L.she.times_c (L.she.times.map eTim),.int .i64 L.she.fin,.int .i64 L.she.miles]:=Eq.trans rfl rfl
@[go_sem] theorem Ro (l:List Lab):Qi 7 (l.map Y8)=true:=VD (f:=Y8) (S:=7) (fun _=>rfl) l
def Xs (L:Lab):AM.Obj:= .cells [.p (.int .i64 L.ready),.p (.int .i64 L.since),.p (.bool L.she.rest),.p (.int .i64 L.she.dep),.p (.list L.she.times_c (L.she.times.map eTim)),.p (.int .i64 L.she.fin),.p (.int .i64 L.she.miles)]
theorem FJ (l:List Tim) (c:Bool) (hl:l.length<=1048576):ACalls Tryz.prog 235 [.p (.list c (l.map eTim))] [] fun x H'=>x= .sl 0 0 l.length l.length/\H'= [.elems 4 (l.map eTim)]:=by
 suffices hh:ACalls Tryz.prog 235 [.p (.list c (l.map eTim))] [] fun x H'=> ∃m:List Tim,m=l/\x= .sl 0 0 m.length m.length/\H'= [.elems 4 (m.map eTim)] by
  grind
 refine Zd [1] Tryz.func235 rfl OT ?_;simp (disch:=omega) only [Tryz.f235,go_sem,seval];refine ZX (ZX (VG 1 rfl rfl ?_));refine ⟨_,Lf (e:=28) rfl Tryz.underlying144 rfl (fun _=>rfl),?_⟩;rintro _ ⟨b,rfl,hb⟩;refine Zi ?_;refine Ze [] _ _ _ _ ?_
 cases b with
 | true =>
  have hn:l= []:=by simp_all
  subst hn;refine Zi ?_;exact ⟨_,_,Weak.ofNil 0 4 rfl Zb (wk),[],rfl,rfl,rfl⟩
 | false =>
  refine Zi ?_;refine Ze [] _ _ _ _ (Zi ?_);exact ⟨.sl 0 0 l.length l.length,[.elems 4 (l.map eTim)],wk,l,rfl,rfl,rfl⟩
theorem Jr (x:Inst) (t:Typ) (r:Rte) (c:Bool) (sp:List Stp):PC 192 [.p (Ao x t r c sp)] (Y8 (Xf t r.start)):=by
 refine Zd [] Tryz.func192 rfl Ow ?_;simp (disch:=omega) only [Tryz.f192,go_sem,seval];exact we (by simp (disch:=omega) only [Xf,zShe,List.map_nil,go_sem,seval])
theorem Hb (x:Inst) (t:Typ) (r:Rte) (c:Bool) (sp:List Stp) (k:Nat) (hk:k<=sp.length) (hl:sp.length<=1048576):PC 237 [.p (Ao x t r c sp),.p (.int .i64 (k:Nat))] (.int .i64 (EK t sp k)):=by
 refine Zc Tryz.func237 rfl OV ?_;simp (disch:=omega) only [Tryz.f237,go_sem,seval];refine cD ?_ ?_<;>intro h<;>simp (disch:=omega) only [Sh.out h,go_sem,seval,↓reduceIte]
 ·simp_all [EK]
 simp_all [EK]
theorem Ps (x:Inst) (r:Rte) (hx:InstOk x) (hty:0<=r.typ/\r.typ<(x.types.length:Int)) (h0:Z3 x r.visits=0) (hs:0<=r.start/\r.start<=4096) :
  PT 191 [.p (XW x),.p (XS r)] [.p (Ao x (ZR x r) r false (XC x r.visits)),.p (.bool true)]:=by
 have hd:=VO hx;have hsq:=Wg h0;have hol:=hd.ord;have htl:=hd.typ;have hvl:=hsq.len hol
 have e1: ¬r.typ<0:=Za
 have e2: ¬(x.types.length:Int)<=r.typ:=Za
 have e3: ¬r.start<0:=Za
 have e4: ¬ 4096<r.start:=Za
 have e5: ¬ 20<(r.visits.length:Int):=Za
 refine Zd [12] Tryz.func191 rfl Gw ?_;simp (disch:=omega) only [Tryz.f191,e1,e2,e3,e4,e5,go_sem,seval];refine Vr [9] 10 mixed Zg Zg Zg Zb (Zi ?_);refine Xo 9 _ _ Zg (by refine Zi ?_;exact ⟨rfl,rfl⟩) (W4 ?_);refine Zi ?_
 refine ZI [12] [2,4,6,49,50] (fun q:Nat×List Stp=> [(51,.p (.int .i64 q.1))])
  (fun q=> [Zj x,Zy r,PY,.cells (PS x (ZR x r) r++ [.sl 4 0 q.2.length q.2.length]),.elems 4 (q.2.map BX)])
  (fun q=>q.1<=r.visits.length/\q.2=(XC x r.visits).take q.1) (fun q=>r.visits.length-q.1) (0,[]) Zb ((Weak.nilC (o:=3) (j:=24) 4 rfl rfl Zb).trans (Weak.mk ?_)) ?_
 ·simp (disch:=omega) only [Zj,Zy,PY,PS,ZR,List.map_nil,List.length_nil,List.set_cons_succ,List.set_cons_zero,List.cons_append,List.nil_append,go_sem,seval]
 ·rintro ⟨k,o⟩ ⟨hk,ho⟩;simp only at hk ho
  have hol2:o.length=k:=by grind [X3]
  simp (disch:=omega) only [Zj,Zy,PY,PS,go_sem,seval];refine cD ?_ ?_<;>intro h1<;>simp (disch:=omega) only [Sh.out h1,go_sem,seval,↓reduceIte]
  ·have hk2:k<r.visits.length:=Za
   have hvis:=hsq.vis (Xe hk2);simp only [LV,Bool.and_eq_true,decide_eq_true_eq] at hvis
   have hsn:o++ [YC x (nth r.visits k)]=(XC x r.visits).take (k+1):=by
    rw [ho,List.take_succ_eq_append_getElem (by grind [X3]),<- Zh,CG hk2]
   have hnp: ¬(YC x (nth r.visits k)).place<0:=Za
   refine XI (Lp x (nth r.visits k) Za hvis.1 hvis.2) ?_;simp (disch:=omega) only [hnp,go_sem,seval];exact ⟨(k+1,o++ [YC x (nth r.visits k)]),⟨Za,hsn⟩,Za,Weak.mk (by simp (disch:=omega) only [List.length_append,List.length_cons,List.length_nil,List.map_append,List.map_cons,List.map_nil,go_sem,seval])⟩
  ·have hkl:k=r.visits.length:=Za
   subst hkl
   have hso:o=XC x r.visits:=by grind [X3]
   subst hso;refine Zz (Weak.fz (o:=4) (by rfl)) (Ze [] _ _ _ _ (V7 ?_));exact we
def Bi (rd sn:Int) (m:She):AM.Obj:= .cells [.p (.int .i64 rd),.p (.int .i64 sn),.p (.bool m.rest),.p (.int .i64 m.dep),.sl 4 0 m.times.length m.times.length,.p (.int .i64 m.fin),.p (.int .i64 m.miles)]
theorem B0 {P:Program} {H:List AM.Obj} {f ars} {a b d:PV} {B:V->Prop} {t} (h:ACalls P f ars [] fun x H'=>x= .tup [.p a,.p b,.p d]/\H'= []) (k:B (.tup [.p a,.p b,.p d])) (ha:ZA 0 ars=true:=by rfl) :
  IM (fun y=>ACalls P f ars H (Zn (Zn (fun x H'=>x=y/\H'=H) ⟨⟩) ⟨⟩)) (Zn B t) :=
 ⟨.tup [.p a,.p b,.p d],(h.behind ha H).mono fun x H' hq=>by
  obtain ⟨y,H1,⟨rfl,rfl⟩,rfl,rfl⟩:=hq
  simp [Bh,Wu,Zn],k⟩
theorem Pg (x:Inst) (t:Typ) (r:Rte) (c:Bool) (sp:List Stp) (hok:TrpOk x t sp) (k:Nat) (hk:k<=sp.length) (hs1:0<sp.length) (L:Lab) (hL:LabR k L) (hlen:L.she.times.length=k) (hclip:0<k->L.she.times_c=false) (b:Bool) :
  PT 222 [.p (Ao x t r c sp),.p (Y8 L),.p (.int .i64 (k:Nat)),.p (.bool b)] [.p (Y8 (XK x t sp k L b).1),.p (.int .i64 (XK x t sp k L b).2)]:=by
 have hd:=Qu hok hL b;have hsn:=Bj hL b;have hg:=Di hok hL b;have hmi:=hL.mil;have hrd:=hL.rdy;have hsnL:=hL.snc;have hsl:=hok.len;have hrst:=hok.rst;unfold XK;have hmm:= @UV k (Z9 t L b) b L.she;have hmf:= @Ey k (Z9 t L b) b L.she;have hml:= @Ur k (Z9 t L b) b L.she;refine Zd [2,7,14,31] Tryz.func222 rfl ON ?_;simp (disch:=omega) only [Tryz.f222,go_sem,seval];refine Yl (Zi ?_);refine XN [2,3,4,5,8] (fun _:Unit=> [(10,.p (.int .i64 (Z9 t L b))),(11,.p (.int .i64 (Vf L b)))]) (fun _=> [Z8 x t r c sp,Xs L,Xs XD]) (fun _=>True) ?_ ?_
 ·refine Zi ?_;refine XQ ?_ ?_<;>intro h
  ·subst h;exact ⟨(),Weak.mk (by simp (disch:=omega) only [Z8,Xs,XD,zShe,Z9,Vf,List.map_nil,go_sem,seval,↓reduceIte])⟩
  ·subst h;exact ⟨(),Weak.mk (by simp (disch:=omega) only [Z8,Xs,XD,zShe,Z9,Vf,List.map_nil,go_sem,seval,↓reduceIte])⟩
 ·intro _ _;refine Ze [7,14,31] _ _ _ _ ?_;simp (disch:=omega) only [Z8,Xs,XD,zShe,List.map_nil,go_sem,seval];refine (FJ L.she.times L.she.times_c Za).useF (Zi ?_)
  generalize hM:XA k (Z9 t L b) b L.she=M at *
  refine XN [2,4,8,10,11,12] (fun _:Unit=> []) (fun _=> [Z8 x t r c sp,Xs L,Xs XD,Bi 0 0 M,.elems 4 (M.times.map eTim)]) (fun _=>True) ?_ ?_
  ·refine Zi ?_;refine XQ ?_ ?_<;>intro h
   ·have hk0:k=0:=Za
    subst hk0
    have e:M= { L.she with rest:=b,dep:=Z9 t L b } :=by rw [<- hM,XA,if_pos rfl]
    rw [e];exact ⟨(),Weak.mk (by simp (disch:=omega) only [Z8,Xs,XD,zShe,Bi,List.map_nil,go_sem,seval])⟩
   ·have e1:((k:Int)-1).toNat=k-1:=Za
    have hk1:k-1<L.she.times.length:=Za
    have Mr:(L.she.times.map eTim).set (k-1) (PV.agg [.int .i64 (nth L.she.times (k-1)).arr,.int .i64 (nth L.she.times (k-1)).beg,.int .i64 (nth L.she.times (k-1)).dep,.bool b])=(L.she.times.set (k-1) { nth L.she.times (k-1) with rest:=b }).map eTim:=by
     rw [List.map_set];rfl
    have hn1:nth (L.she.times.set (k-1) { nth L.she.times (k-1) with rest:=b }) (k-1)= { nth L.she.times (k-1) with rest:=b } :=by
     grind [Zh]
    have hl1:(L.she.times.set (k-1) { nth L.she.times (k-1) with rest:=b }).length=L.she.times.length:=Zb
    have hMt:M.times=(L.she.times.set (k-1) { nth L.she.times (k-1) with rest:=b }).set (k-1) { nth (L.she.times.set (k-1) { nth L.she.times (k-1) with rest:=b }) (k-1) with dep:=Z9 t L b } :=by
     rw [hn1,List.set_set,<- hM,XA,if_neg Za];rfl
    have hM2:M.rest=L.she.rest/\M.dep=L.she.dep:=by rw [<- hM,XA,if_neg Za];simp
    simp (disch:=first | omega | (simp only [List.length_cons,List.length_nil,List.length_append,List.length_map,List.length_take,List.length_drop]<;>omega)) only [e1,go_sem,seval,↓reduceIte];rw [Mr]
    generalize L.she.times.set (k-1) { nth L.she.times (k-1) with rest:=b } =l1 at *
    simp (disch:=first | omega | (simp only [List.length_cons,List.length_nil,List.length_append,List.length_map,List.length_take,List.length_drop]<;>omega)) only [e1,hl1,eq_self,decide_true,go_sem,seval];refine ⟨(),Weak.mk ?_⟩;simp (disch:=omega) only [Z8,Xs,XD,zShe,Bi,List.map_nil,hM2.1,hM2.2,hmm,hmf,hml,go_sem,seval];rw [hMt,List.map_set]
    rfl
  ·intro _ _;refine Ze [14,31] _ _ _ _ ?_;simp (disch:=omega) only [Z8,Xs,XD,zShe,Bi,List.map_nil,go_sem,seval];refine XN [2,4,8,10,11,12,13] (fun _:Unit=> [(14,.p (.int .i64 (MC t sp k)))]) (fun _=> [Z8 x t r c sp,Xs L,Xs XD,Bi 0 0 M,.elems 4 (M.times.map eTim)]) (fun _=>True) ?_ ?_
   ·refine Zi ?_;refine XQ ?_ ?_<;>intro h
    ·have e:MC t sp k=(nth sp k).place:=by rw [MC,if_neg Za]
     exact ⟨(),Weak.mk (by simp (disch:=omega) only [Z8,Xs,XD,zShe,Bi,List.map_nil,e,go_sem,seval])⟩
    ·have e:MC t sp k=t.dst:=by rw [MC,if_pos Za]
     exact ⟨(),Weak.mk (by simp (disch:=omega) only [Z8,Xs,XD,zShe,Bi,List.map_nil,e,go_sem,seval])⟩
   ·intro _ _;refine Ze [31] _ _ _ _ ?_;simp (disch:=omega) only [Z8,Xs,XD,zShe,Bi,List.map_nil,go_sem,seval];refine Yl (Zi ?_);refine ZN (Hb x t r c sp k hk Za) (Zi ?_);refine B0 (dL x.net t.prof (EK t sp k) (MC t sp k) (Z9 t L b) hok.net Za) (Zi ?_);have hG:KS x.net t.prof (EK t sp k) (MC t sp k) (Z9 t L b)=Gm x t sp k (Z9 t L b):=rfl;rw [hG];clear hG
    generalize Gm x t sp k (Z9 t L b)=g at *
    generalize Z9 t L b=d at *
    generalize Vf L b=s at *
    refine cD ?_ ?_<;>intro h1<;>simp (disch:=omega) only [Sh.out h1,go_sem,seval,↓reduceIte]
    ·have e:YO t sp k g d s M=(XD,12):=by rw [YO,if_pos h1]
     rw [e];exact we (by simp (disch:=omega) only [XD,zShe,List.map_nil,go_sem,seval])
    ·refine cD ?_ ?_<;>intro h2<;>simp (disch:=omega) only [Sh.out h2,go_sem,seval,↓reduceIte]
     ·refine cD ?_ ?_<;>intro h3<;>simp (disch:=omega) only [Sh.out h3,go_sem,seval,↓reduceIte]
      ·have e:YO t sp k g d s M=(XD,15):=by rw [YO,if_neg h1,if_pos Za,if_pos h3]
       rw [e];exact we (by simp (disch:=omega) only [XD,zShe,List.map_nil,go_sem,seval])
      ·refine Zz (Weak.fz (o:=4) (by rfl)) (Ze [] _ _ _ _ (V7 ?_));refine cD ?_ ?_<;>intro h4<;>simp (disch:=omega) only [Sh.out h4,go_sem,seval,↓reduceIte]
       ·have e:YO t sp k g d s M=(XD,16):=by rw [YO,if_neg h1,if_pos Za,if_neg h3,if_pos h4]
        rw [e];exact we (by simp (disch:=omega) only [XD,zShe,List.map_nil,go_sem,seval])
       ·have e:YO t sp k g d s M=(⟨g.1,s+g.1-d,{ M with fin:=g.1,miles:=M.miles+g.2.1 }⟩,0):=by rw [YO,if_neg h1,if_pos Za,if_neg h3,if_neg h4]
        have hMc:M.times_c=false:=by
         rw [<- hM,XA,if_neg Za]
         grind
        rw [e];exact we (by simp (disch:=omega) only [hMc,go_sem,seval])
     ·have h2': ¬k=sp.length:=Za
      have hkl:k<sp.length:=Za
      have hstp:=hok.stp _ (Zp hkl);refine XI (Iy (nth sp k) g.1) ?_;unfold BR
      by_cases h3:(nth sp k).cls<max g.1 (nth sp k).opn
      ·have e:YO t sp k g d s M=(XD,14):=by simp_all [YO]
       rw [e,if_pos h3];refine Zi ?_;exact we (by simp (disch:=omega) only [XD,zShe,List.map_nil,go_sem,seval])
      ·rw [if_neg h3];refine Zi ?_;refine Zz (Weak.fz (o:=4) (by rfl)) (Ze [] _ _ _ _ (V7 ?_));refine cD ?_ ?_<;>intro h4<;>simp (disch:=omega) only [Sh.out h4,go_sem,seval,↓reduceIte]
       ·have e:YO t sp k g d s M=(XD,16):=by simp_all [YO]
        rw [e];exact we (by simp (disch:=omega) only [XD,zShe,List.map_nil,go_sem,seval])
       ·have e:YO t sp k g d s M=(⟨max g.1 (nth sp k).opn+(nth sp k).serv,s+g.1-d,{ M with times_c:=false,times:=M.times++ [⟨g.1,max g.1 (nth sp k).opn,0,false⟩],miles:=M.miles+g.2.1 }⟩,0):=by simp_all [YO,if_neg]
        rw [e];exact we
theorem EE {x t sp k L b} (hs:0<sp.length) (hc:0<k->L.she.times_c=false) (he:(XK x t sp k L b).2=0):(XK x t sp k L b).1.she.times_c=false:=by
 have hm:0<k->(XA k (Z9 t L b) b L.she).times_c=false:=fun h=>by rw [XA,if_neg Za];exact hc h
 unfold XK at he ⊢
 generalize Gm x t sp k (Z9 t L b)=g at *
 generalize Z9 t L b=d at *
 generalize Vf L b=s at *
 generalize XA k d b L.she=m at *
 unfold YO at he ⊢
 grind
structure LabO (n k:Nat) (L:Lab):Prop where
 rng:LabR k L
 len:k<=n->L.she.times.length=k
 clip:0<k->L.she.times_c=false
theorem JD {x t sp k L b} (hok:TrpOk x t sp) (hs:0<sp.length) (hk:k<=sp.length) (h:LabO sp.length k L) (he:(XK x t sp k L b).2=0):LabO sp.length (k+1) (XK x t sp k L b).1 :=
 ⟨Dv hok hk h.rng he,fun hk2=>QQ (h.len hk) he Za,fun _=>EE hs h.clip he⟩
theorem JE {x t sp} (hok:TrpOk x t sp) {st:Int} (hst:0<=st/\st<=4096):LabO sp.length 0 (Xf t st) :=
 ⟨⟨by have:=hok.opn;grind [Xf],by simp [Xf],by simp [Xf,zShe]⟩,fun _=>rfl,fun h=>Za⟩
theorem Du (x:Inst) (t:Typ) (r:Rte) (c:Bool) (sp:List Stp) (hok:TrpOk x t sp) (k:Nat) (hk:k<=sp.length) (hs1:0<sp.length) (L:Lab) (hL:LabO sp.length k L) (b:Bool) :
  PT 222 [.p (Ao x t r c sp),.p (Y8 L),.p (.int .i64 (k:Nat)),.p (.bool b)] [.p (Y8 (XK x t sp k L b).1),.p (.int .i64 (XK x t sp k L b).2)] :=
 Pg x t r c sp hok k hk hs1 L hL.rng (hL.len hk) hL.clip b
theorem dU (x:Inst) (t:Typ) (r:Rte) (c:Bool) (sp:List Stp) (hok:TrpOk x t sp) (hs1:0<sp.length) (hst:0<=r.start/\r.start<=4096) (bs:List Bool) (d:Bool) (hb:bs.length=sp.length+1) :
  PT 194 [.p (Ao x t r c sp),.p (.list d (bs.map eB))] [.p (Ek (Xp x t sp 0 (Xf t r.start) bs).1.she),.p (.int .i64 (Xp x t sp 0 (Xf t r.start) bs).2)]:=by
 have hsl:=hok.len;refine Zd [] Tryz.func194 rfl Oy ?_;simp (disch:=omega) only [Tryz.f194,go_sem,seval];refine (Jr x t r c sp).use (Zi ?_)
 refine Zl [2,4,6,13,14] (fun q:Nat×Lab=> [(15,.p (.int .i64 q.1))]) (fun q=> [Z8 x t r c sp,.cells [.p (.bool false),.p (.int .i64 0),.p (.list true []),.p (.int .i64 0),.p (.int .i64 0)],Xs q.2])
  (fun q=>q.1<=bs.length/\Xp x t sp 0 (Xf t r.start) bs=Xp x t sp q.1 q.2 (bs.drop q.1)/\LabO sp.length q.1 q.2) (fun q=>bs.length-q.1) (0,Xf t r.start) ⟨Zb,Zb,JE hok hst⟩ (Weak.mk ?_) ?_
 ·simp (disch:=omega) only [Z8,Xs,go_sem,seval]
 ·rintro ⟨k,L⟩ ⟨hk,hrun,hL⟩;simp only at hk hrun hL;simp (disch:=omega) only [Z8,Xs,go_sem,seval];refine cD ?_ ?_<;>intro h1<;>simp (disch:=omega) only [Sh.out h1,go_sem,seval,↓reduceIte]
  ·have hk2:k<bs.length:=Za
   have hdrop:bs.drop k=nth bs k::bs.drop (k+1):=by rw [List.drop_eq_getElem_cons hk2,Zh hk2]
   rw [hdrop,Xp] at hrun;have cn:=Du x t r c sp hok k Za hs1 L hL (nth bs k);have hL2:=JD (x:=x) (t:=t) (b:=nth bs k) hok hs1 Za hL
   generalize XK x t sp k L (nth bs k)=N at *
   refine XI cn (Zi ?_);refine XQ ?_ ?_<;>intro h2
   ·rw [hrun,if_neg h2];exact we (by simp (disch:=omega) only [XD,zShe,List.map_nil,go_sem,seval])
   ·rw [if_pos Za] at hrun;exact ⟨(k+1,N.1),⟨Za,hrun,hL2 Za⟩,Za,wk⟩
  ·have hkl:k=bs.length:=Za
   subst hkl;rw [List.drop_length,Xp] at hrun;rw [hrun];exact we
theorem Ix (l m:Lab):PC 225 [.p (Y8 l),.p (Y8 m)] (.bool (Zt l m)):=by
 refine Zc Tryz.func225 rfl OQ ?_;simp (disch:=omega) only [Tryz.f225,go_sem,seval];refine gT ?_ ?_<;>intro h<;>simp (disch:=omega) only [Sh.out h,go_sem,seval,↓reduceIte]
 ·simp [Zt,h]
 ·simp [Zt,h]
def gH (x:Inst) (t:Typ) (r:Rte) (c:Bool) (sp:List Stp) (o:List Lab) (f z:Lab):List AM.Obj:= [Z8 x t r c sp,.dead,.elems 7 (o.map Y8),Xs f,Xs z]
theorem IX (x:Inst) (t:Typ) (r:Rte) (c:Bool) (sp:List Stp) (o:List Lab) (f z m:Lab):ACalls Tryz.prog 224 [.p (Y8 m),.ptr 4 0] (gH x t r c sp o f z) fun y H'=>y= .p (.bool (Zt m z))/\H'=gH x t r c sp o f z:=by
 refine Zd [] Tryz.func224 rfl OP ?_;simp (disch:=omega) only [Tryz.f224,gH,Z8,Xs,go_sem,seval];refine (Ix m z).use (Zi ?_);exact we
theorem B7 (x:Inst) (t:Typ) (r:Rte) (c:Bool) (sp:List Stp) (o:List Lab) (f z:Lab) (hl:o.length<=2097152) :
  ACalls Tryz.prog 239 [.sl 2 0 o.length o.length,.fn (.func 224) [] [.ptr 4 0]] (gH x t r c sp o f z) fun y H'=>y= .p (.int .i64 (Mq (fun m=>Zt m z) o))/\H'=gH x t r c sp o f z:=by
 refine Zd [] Tryz.func239 rfl OX ?_;simp (disch:=omega) only [Tryz.f239,gH,Z8,Xs,go_sem,seval];refine Zl [0,1,7] (fun k:Nat=> [(8,.p (.int .i64 k))]) (fun _=>gH x t r c sp o f z) (fun k=>k<=o.length/\ ∀j,j<k->Zt (nth o j) z=false) (fun k=>o.length-k) 0 Zb (Weak.mk ?_) ?_
 ·simp (disch:=omega) only [gH,Z8,Xs,go_sem,seval,↓reduceIte]
 ·rintro k ⟨hk,hno⟩;simp (disch:=omega) only [gH,Z8,Xs,go_sem,seval];refine cD ?_ ?_<;>intro h<;>simp (disch:=omega) only [Sh.out h,go_sem,seval,↓reduceIte]
  ·have hk2:k<o.length:=Za
   have hg:=IX x t r c sp o f z (nth o k);simp (disch:=first | omega | (simp only [List.length_cons,List.length_nil,List.length_append,List.length_map,List.length_take,List.length_drop]<;>omega)) only [Ym hk2,hk2,go_sem,seval,↓reduceIte];simp (disch:=omega) only [gH,Z8,Xs,go_sem,seval] at hg;refine hg.useH (Zi ?_);refine cD ?_ ?_<;>intro h2<;>simp (disch:=omega) only [Sh.out h2,go_sem,seval,↓reduceIte]
   ·rw [Gd (f:=fun m=>Zt m z) hk2 h2 hno];exact we
   ·exact ⟨k+1,⟨Za,Zo.2 ⟨hno,Za⟩⟩,Za,wk⟩
  ·have hkl:k=o.length:=Za
   subst hkl;rw [Gf hno];exact we
theorem Ji (x:Inst) (t:Typ) (r:Rte) (c:Bool) (sp:List Stp) (o:List Lab) (f z:Lab) (hl:o.length<=2097152) :
  ACalls Tryz.prog 223 [.sl 2 0 o.length o.length,.fn (.func 224) [] [.ptr 4 0]] (gH x t r c sp o f z) fun y H'=>y= .p (.bool (o.any fun m=>Zt m z))/\H'=gH x t r c sp o f z:=by
 refine Zd [] Tryz.func223 rfl OO ?_;simp (disch:=omega) only [Tryz.f223,go_sem,seval];refine (B7 x t r c sp o f z hl).useH (Zi ?_);rw [Ge];exact we (by simp (disch:=omega) only [gH,Z8,Xs,go_sem,seval])
def Ef (x:Inst) (t:Typ) (sp:List Stp) (r:List Bool) (k:Nat) (f:Lab) (bs:List Bool) (l:List Lab):List Lab:=bs.filterMap (Z2 x t sp k f)++XF (Z2 x t sp) (Yg r) k l
theorem NI (x:Inst) (t:Typ) (r:Rte) (c:Bool) (sp:List Stp) (hok:TrpOk x t sp) (hs1:0<sp.length) (k:Nat) (hk:k<=sp.length) (hrl:r.rests.length<=1048576) (l:List Lab) (d:Bool) (hl:l.length<=1048576) (hL: ∀L∈l,LabO sp.length k L) :
  PC 193 [.p (Ao x t r c sp),.p (.list d (l.map Y8)),.p (.int .i64 (k:Nat))] (.list false ((ZP Zt [] (XF (Z2 x t sp) (Yg r.rests) k l)).map Y8)):=by
 have hsl:=hok.len;refine Zd [2,16] Tryz.func193 rfl Ox ?_;simp (disch:=omega) only [Tryz.f193,go_sem,seval];refine Zz (Weak.fz (o:=1) (by rfl)) (V7 ?_);refine XN [1,2,3] (fun cb:Bool=> [(7,.p (.list cb ((Yg r.rests k).map eB)))]) (fun _=> [Z8 x t r c sp,.dead]) (fun _=>True) ?_ ?_
 ·refine Zi ?_;refine XQ ?_ ?_<;>intro h
  ·have hk2:k<r.rests.length:=Za
   have e:Yg r.rests k=(r.rests.take (k+1)).drop k:=by
    grind [Yg,List.take_succ_eq_append_getElem]
   exact ⟨r.rests_c&&decide ((k:Int)+1=(r.rests.length:Int)),Weak.mk (by simp (disch:=omega) only [Z8,e,go_sem,seval])⟩
  ·have e:Yg r.rests k= [false,true]:=by grind [Yg]
   exact ⟨false,Weak.mk (by simp (disch:=omega) only [Z8,e,List.map_cons,List.map_nil,go_sem,seval])⟩
 ·intro cb _
  have hch:(Yg r.rests k).length<=2:=by grind [Yg]
  refine Ze [16] _ _ _ _ ?_;simp (disch:=omega) only [Z8,go_sem,seval]
  refine ZI [16] [2,3,7,29,30] (fun q:Nat×List Lab=> [(8,.sl 2 0 q.2.length q.2.length),(31,.p (.int .i64 q.1))]) (fun q=> [Z8 x t r c sp,.dead,.elems 7 (q.2.map Y8)])
   (fun q=>q.1<=l.length/\ZP Zt [] (XF (Z2 x t sp) (Yg r.rests) k l)=ZP Zt q.2 (XF (Z2 x t sp) (Yg r.rests) k (l.drop q.1))/\q.2.length<=2*q.1) (fun q=>l.length-q.1) (0,[]) Zb (Weak.ofNil 8 7 rfl Zb (Weak.mk ?_)) ?_
  ·simp (disch:=omega) only [Z8,List.map_nil,List.length_nil,go_sem,seval]
  ·rintro ⟨i,o⟩ ⟨hi,hpr,hol⟩;simp only at hi hpr hol;simp (disch:=omega) only [Z8,go_sem,seval];refine cD ?_ ?_<;>intro h1<;>simp (disch:=omega) only [Sh.out h1,go_sem,seval,↓reduceIte]
   ·have hi2:i<l.length:=Za
    have hLi:=hL _ (Zp hi2)
    have hdrop:l.drop i=nth l i::l.drop (i+1):=by rw [List.drop_eq_getElem_cons hi2,Zh hi2]
    rw [hdrop] at hpr;have hpr:ZP Zt [] (XF (Z2 x t sp) (Yg r.rests) k l)=ZP Zt o (Ef x t sp r.rests k (nth l i) ((Yg r.rests k).drop 0) (l.drop (i+1))):=hpr
    refine Zl [2,3,7,10,29,30,31,35,36] (fun q:Nat×List Lab=> [(8,.sl 2 0 q.2.length q.2.length),(37,.p (.int .i64 q.1))]) (fun q=> [Z8 x t r c sp,.dead,.elems 7 (q.2.map Y8),Xs (nth l i)])
     (fun q=>q.1<=(Yg r.rests k).length/\ZP Zt [] (XF (Z2 x t sp) (Yg r.rests) k l)=ZP Zt q.2 (Ef x t sp r.rests k (nth l i) ((Yg r.rests k).drop q.1) (l.drop (i+1)))/\q.2.length<=2*i+q.1) (fun q=>(Yg r.rests k).length-q.1) (0,o) ⟨Zb,hpr,hol⟩ (Weak.mk ?_) ?_
    ·simp (disch:=omega) only [Z8,Xs,go_sem,seval]
    ·clear hpr hol;rintro ⟨j,o⟩ ⟨hj,hpr,hol⟩;simp only at hj hpr hol;simp (disch:=omega) only [Z8,Xs,go_sem,seval];refine XQ ?_ ?_<;>intro h2
     ·have hj2:j<(Yg r.rests k).length:=Za
      have hd2:(Yg r.rests k).drop j=nth (Yg r.rests k) j::(Yg r.rests k).drop (j+1):=by rw [List.drop_eq_getElem_cons hj2,Zh hj2]
      have cn:=Du x t r c sp hok k hk hs1 (nth l i) hLi (nth (Yg r.rests k) j);have ho2:Z2 x t sp k (nth l i) (nth (Yg r.rests k) j)=if (XK x t sp k (nth l i) (nth (Yg r.rests k) j)).2=0 then some (XK x t sp k (nth l i) (nth (Yg r.rests k) j)).1 else none:=rfl;rw [hd2,Ef,List.filterMap_cons,ho2] at hpr
      generalize XK x t sp k (nth l i) (nth (Yg r.rests k) j)=N at *
      refine XI cn (Zi ?_);refine aF ?_ ?_<;>intro h3
      ·have hcl:=Ji x t r c sp o (nth l i) N.1 Za;simp (disch:=omega) only [gH,Z8,Xs,go_sem,seval] at hcl;refine hcl.useH (Zi ?_);rw [if_pos h3] at hpr;have hpr:ZP Zt [] (XF (Z2 x t sp) (Yg r.rests) k l)=if (o.any fun m=>Zt m N.1)=true then ZP Zt o (Ef x t sp r.rests k (nth l i) ((Yg r.rests k).drop (j+1)) (l.drop (i+1))) else ZP Zt (o++ [N.1]) (Ef x t sp r.rests k (nth l i) ((Yg r.rests k).drop (j+1)) (l.drop (i+1))):=hpr;refine XQ ?_ ?_<;>intro h4
       ·rw [if_neg (by grind)] at hpr;exact ⟨(j+1,o++ [N.1]),⟨Za,hpr,by simp;omega⟩,Za,Weak.mk (by simp (disch:=omega) only [List.length_append,List.length_cons,List.length_nil,List.map_append,List.map_cons,List.map_nil,go_sem,seval])⟩
       ·rw [if_pos (by grind)] at hpr;exact ⟨(j+1,o),⟨Za,hpr,by grind⟩,Za,wk⟩
      ·rw [if_neg h3] at hpr;exact ⟨(j+1,o),⟨Za,hpr,by grind⟩,Za,wk⟩
     ·have hjl:j=(Yg r.rests k).length:=Za
      subst hjl;rw [List.drop_length,Ef,List.filterMap_nil,List.nil_append] at hpr;exact ⟨(i+1,o),⟨Za,hpr,by grind⟩,Za,wk⟩
   ·have hil:i=l.length:=Za
    subst hil;have e:XF (Z2 x t sp) (Yg r.rests) k []= []:=rfl;rw [List.drop_length,e,ZP] at hpr;rw [hpr];refine Zz (Weak.fz (o:=2) (by rfl)) (Ze [] _ _ _ _ (V7 ?_));exact we
def IK : PV:= .agg [.list true [],.list true [],.list true [],.list true [],.list true [],.list true [],.str [],.int .i64 0,.int .i64 0,.int .i64 0,.list true [],.int .i64 0,.int .i64 0,.int .i64 0,.int .i64 0,.int .i64 0,.int .i64 0,.int .i64 0,.int .i64 0,.int .i64 0,.int .i64 0,.int .i64 0,.list true [],.list true [],.list true []]
theorem Lt (x:Inst) (r:Rte) (hty:0<=r.typ/\r.typ<(x.types.length:Int)) (htl:x.types.length<=1048576) (hvl:r.visits.length<=20) (hs: ¬(0<=r.start/\r.start<=4096)) :
  PT 191 [.p (XW x),.p (XS r)] [.p IK,.p (.bool false)]:=by
 have e1: ¬r.typ<0:=Za
 have e2: ¬(x.types.length:Int)<=r.typ:=Za
 refine Zd [] Tryz.func191 rfl Gw ?_;simp (disch:=omega) only [Tryz.f191,e1,e2,go_sem,seval];refine gF ?_ ?_<;>intro h1<;>simp (disch:=omega) only [Sh.out h1,go_sem,seval,↓reduceIte]
 ·exact we (by simp (disch:=omega) only [IK,go_sem,seval])
 ·refine gF ?_ ?_<;>intro h2<;>simp (disch:=omega) only [Sh.out h2,go_sem,seval,↓reduceIte]
  ·exact we (by simp (disch:=omega) only [IK,go_sem,seval])
  ·omega
theorem A5 {x t sp} : ∀(bs:List Bool) (k:Nat) (L:Lab),¬(Xp x t sp k L bs).2=0->(Xp x t sp k L bs).1=XD
 | [],k,L,h=>by simp [Xp] at h
 | b::bs,k,L,h=>by
  rw [Xp] at h ⊢
  split
  ·rename_i c;rw [if_pos c] at h;exact A5 bs (k+1) _ h
  ·rfl
theorem Ep (n:Nat):List.replicate n false∈Xj (List.replicate n false):=by
 rw [Vs];simp
theorem F9 {l:List Lab} (h:YD X0 none l=none):l= []:=by
 cases l with
 | nil=>rfl
 | cons a l =>
  obtain ⟨z,hz,_⟩:=WD (fin:=X0) l a;have:YD X0 none (a::l)=YD X0 (some a) l:=rfl
  grind
theorem Ed {x t sp} {st:Int} {r:List Bool} (h:YD X0 none ((YT r (sp.length+1)).filterMap (Vz (Z2 x t sp) 0 (Xf t st)))=none): ¬(Xp x t sp 0 (Xf t st) (Vd r (sp.length+1))).2=0:=fun h0=>by
 have h1:=F9 h;have h2:Vd r (sp.length+1)∈YT r (sp.length+1):=List.mem_map.2 ⟨_,Ep _,rfl⟩
 simp_all [WS]
theorem BS {x t sp} {st:Int} {r:List Bool} (hr:r.length<=sp.length+1) (h:YD X0 none (Wn Zt (Z2 x t sp) (Yg r) (sp.length+1) 0 [Xf t st])=none): ¬(Xp x t sp 0 (Xf t st) (Vd r (sp.length+1))).2=0 :=
 Ed (by rw [JF,XU,Jy r _ hr] at h;exact h)
def YW (x:Inst) (r:Rte):She×Int:=if 0<=r.start/\r.start<=4096/\r.rests.length<=r.visits.length+1 then XO x r else (zShe,2)
theorem FE {x t sp} {ch:Nat->List Bool} {k:Nat} {l:List Lab} (hok:TrpOk x t sp) (hs:0<sp.length) (hk:k<=sp.length) (h: ∀L∈l,LabO sp.length k L): ∀L∈ZP Zt [] (XF (Z2 x t sp) ch k l),LabO sp.length (k+1) L:=fun L hL=>by
 have h1:=W6 Zt _ _ L hL;rw [List.nil_append] at h1;obtain ⟨a,ha,hb⟩:=List.mem_flatMap.1 h1
 grind [Z2,JD]
theorem UD : ∀(c out:List Lab),(ZP Zt out c).length<=out.length+c.length
 | [],out=>by simp [ZP]
 | x::c,out=>by
  rw [ZP]
  split
  ·have:=UD c out;simp;omega
  ·have:=UD c (out++ [x]);simp at this ⊢;omega
theorem Js {x t sp} {r:List Bool} {k:Nat} : ∀l:List Lab,(XF (Z2 x t sp) (Yg r) k l).length<=2*l.length
 | []=>by simp [XF]
 | a::l=>by
  have ih:=Js (x:=x) (t:=t) (sp:=sp) (r:=r) (k:=k) l;have h1:(XF (Z2 x t sp) (Yg r) k (a::l))=(Yg r k).filterMap (Z2 x t sp k a)++XF (Z2 x t sp) (Yg r) k l:=rfl
  grind [Yg]
theorem Lk (x:Inst) (r:Rte) (hx:InstOk x) (hl:r.visits.length<=1048576) (hrl:r.rests.length<=1048576) (hty:0<=r.typ/\r.typ<(x.types.length:Int)) (h0:Z3 x r.visits=0) :
  PT 156 [.p (XW x),.p (XS r)] [.p (Ek (YW x r).1),.p (.int .i64 (YW x r).2)]:=by
 have hd:=VO hx;have hsq:=Wg h0;have hol:=hd.ord;have htl:=hd.typ;have hvl:=hsq.len hol;have hok:=Br hx hty hsq;have hsl:(XC x r.visits).length=r.visits.length:=X3
 have hs1:0<(XC x r.visits).length:=by
  rw [hsl];have:=hsq.ne
  grind
 refine Zd [6,13,14] Tryz.func156 rfl N6 ?_;simp (disch:=omega) only [Tryz.f156,go_sem,seval]
 by_cases hs:0<=r.start/\r.start<=4096
 ·refine XI (Ps x r hx hty h0 hs) (Zi ?_);refine cD ?_ ?_<;>intro h1<;>simp (disch:=omega) only [Sh.out h1,go_sem,seval,↓reduceIte]
  ·have e:YW x r=(zShe,2):=by rw [YW,if_neg Za]
   rw [e];exact we (by simp (disch:=omega) only [zShe,List.map_nil,go_sem,seval])
  ·have hrs:r.rests.length<=r.visits.length+1:=Za
   have e:YW x r=XO x r:=by simp_all [YW]
   have hbn:= @BS x (ZR x r) (XC x r.visits) r.start r.rests Za;rw [e,XO,Kk Za];refine (Jr x (ZR x r) r false (XC x r.visits)).use (Zi ?_)
   generalize hT:ZR x r=t at *
   generalize hS:XC x r.visits=sp at *
   refine Zz (Weak.fz (o:=4) (by rfl)) ?_;refine Ze [13,14] _ _ _ _ (Zi ?_)
   refine ZI [13,14] [3,4,6,8,38] (fun q:Nat×List Lab=> [(9,.p (.list false (q.2.map Y8))),(39,.p (.int .i64 q.1))]) (fun _=> [Zj x,Zy r,.cells [.p (.bool false),.p (.int .i64 0),.p (.list true []),.p (.int .i64 0),.p (.int .i64 0)],Z8 x t r false sp,.dead])
    (fun q=>q.1<=sp.length+1/\Wn Zt (Z2 x t sp) (Yg r.rests) (sp.length+1) 0 [Xf t r.start]=Wn Zt (Z2 x t sp) (Yg r.rests) (sp.length+1-q.1) q.1 q.2/\(∀L∈q.2,LabO sp.length q.1 L)/\q.2.length<=2^q.1) (fun q=>sp.length+1-q.1) (0,[Xf t r.start]) ⟨Zb,Zb,fun L hL=>by grind [JE],Zb⟩ (Weak.mk ?_) ?_
   ·simp (disch:=omega) only [Zj,Zy,Z8,List.map_cons,List.map_nil,List.set_cons_succ,List.set_cons_zero,go_sem,seval]
   ·rintro ⟨k,l⟩ ⟨hk,hit,hlo,hll⟩;simp only at hk hit hlo hll;simp (disch:=omega) only [Zj,Zy,Z8,go_sem,seval];refine cD ?_ ?_<;>intro h2<;>simp (disch:=omega) only [Sh.out h2,go_sem,seval,↓reduceIte]
    ·have hk2:k<=sp.length:=Za
     have hp20:2^k<=2^20:=Nat.pow_le_pow_right Za Za;refine (NI x t r false sp hok hs1 k hk2 hrl l false Za hlo).use (Zi ?_)
     have hn:Wn Zt (Z2 x t sp) (Yg r.rests) (sp.length+1-k) k l=Wn Zt (Z2 x t sp) (Yg r.rests) (sp.length+1-(k+1)) (k+1) (ZP Zt [] (XF (Z2 x t sp) (Yg r.rests) k l)):=by
      have e:sp.length+1-k=(sp.length+1-(k+1))+1:=Za
      rw [e,Wn]
     have hln:=UD (XF (Z2 x t sp) (Yg r.rests) k l) [];have hln2:=Js (x:=x) (t:=t) (sp:=sp) (r:=r.rests) (k:=k) l;exact ⟨(k+1,ZP Zt [] (XF (Z2 x t sp) (Yg r.rests) k l)),⟨Za,hit.trans hn,FE hok hs1 hk2 hlo,by grind⟩,Za,Weak.mk (by simp (disch:=omega) only [List.set_cons_succ,List.set_cons_zero,go_sem,seval])⟩
    ·have hkn:k=sp.length+1:=Za
     subst hkn;rw [Nat.sub_self,Wn] at hit;rw [hit] at hbn ⊢;clear hit;refine cD ?_ ?_<;>intro h3<;>simp (disch:=omega) only [Sh.out h3,go_sem,seval,↓reduceIte]
     ·have hl0:l= []:=List.eq_nil_of_length_eq_zero Za;subst hl0;have hbn:=hbn rfl;refine ZX (U5 3 rfl rfl (Zi ?_));refine ⟨_,_,GV (e:=4) rfl Tryz.underlying91 Zg rfl rfl rfl ?_ ?_ ?_,?_⟩
      ·simp
      ·simp;omega
      ·intro q hq;obtain ⟨b,_,rfl⟩:=List.mem_map.1 hq
       rfl
      ·have hpl:(Vd r.rests (sp.length+1)).length=sp.length+1:=by simp [Vd];omega
       have hpad:r.rests.map eB++(PV.bool false::List.replicate r.visits.length (PV.bool false)).drop (r.rests.map eB).length=(Vd r.rests (sp.length+1)).map eB:=by
        rw [Vd,List.map_append,<- List.replicate_succ,List.drop_replicate,List.map_replicate,hsl,List.length_map];rfl
       have hcr:=dU x t r false sp hok hs1 hs (Vd r.rests (sp.length+1)) false hpl;have hbad:=A5 _ _ _ hbn;rw [hbad] at hcr;simp only [List.set_cons_succ,List.set_cons_zero];rw [hpad]
       generalize hRP:Vd r.rests (sp.length+1)=rp at *
       refine Zz (Weak.fz (o:=5) (by rfl)) (Ze [] _ _ _ _ (V7 ?_));rw [if_pos Za];refine XI hcr (Zi ?_);have hfm0:YD X0 none ([]:List Lab)=none:=rfl;rw [hfm0];exact we (by simp (disch:=omega) only [XD,zShe,List.map_nil,go_sem,seval])
     ·cases l with
      | nil=>simp at h3
      | cons l0 l =>
       have e0:YX ((l0::l).map Y8) 0=Y8 l0:=rfl;have hn0:nth (l0::l) 0=l0:=rfl;simp (disch:=first | omega | (simp only [List.length_cons,List.length_nil,List.length_append,List.length_map,List.length_take,List.length_drop]<;>omega)) only [hn0,List.take_length,go_sem,seval];have hfm:YD X0 none (l0::l)=YD X0 (some l0) l:=rfl;rw [hfm]
       have hlen:l.length<=2097152:=by
        have hp20:2^(sp.length+1)<=2^21:=Nat.pow_le_pow_right Za Za
        grind
       refine Zl [4,12,65,66] (fun q:Nat×Lab=> [(67,.p (.int .i64 q.1))]) (fun q=> [Zj x,Zy r,.cells [.p (.bool false),.p (.int .i64 0),.p (.list true []),.p (.int .i64 0),.p (.int .i64 0)],Z8 x t r false sp,.dead,Xs q.2])
        (fun q=>q.1<=l.length/\YD X0 (some l0) l=YD X0 (some q.2) (l.drop q.1)) (fun q=>l.length-q.1) (0,l0) Zb (Weak.mk ?_) ?_
       ·simp (disch:=omega) only [Zj,Zy,Z8,Xs,go_sem,seval]
       ·rintro ⟨i,m⟩ ⟨hi,hm⟩;simp only at hi hm;simp (disch:=omega) only [Zj,Zy,Z8,Xs,go_sem,seval];refine cD ?_ ?_<;>intro h4<;>simp (disch:=omega) only [Sh.out h4,go_sem,seval,↓reduceIte]
        ·have hi2:i<l.length:=Za
         have hdrop:l.drop i=nth l i::l.drop (i+1):=by rw [List.drop_eq_getElem_cons hi2,Zh hi2]
         rw [hdrop,YD] at hm;refine XQ ?_ ?_<;>intro h5
         ·rw [if_pos (show X0 (nth l i)<X0 m from h5)] at hm;exact ⟨(i+1,nth l i),⟨Za,hm⟩,Za,wk⟩
         ·rw [if_neg (show ¬X0 (nth l i)<X0 m from h5)] at hm;exact ⟨(i+1,m),⟨Za,hm⟩,Za,wk⟩
        ·have hil:i=l.length:=Za
         subst hil;rw [List.drop_length,YD] at hm;rw [hm];exact we
 ·have e:YW x r=(zShe,2):=by rw [YW,if_neg (fun h=>hs ⟨h.1,h.2.1⟩)]
  rw [e];refine XI (Lt x r hty htl hvl hs) ?_;simp (disch:=omega) only [IK,go_sem,seval];exact we (by simp (disch:=omega) only [zShe,List.map_nil,go_sem,seval])
end Go.Proofs.YtmbelkfkhclnkaaGreatDoor.K
namespace Go.AM
open Go.RowKit
theorem GN (k v:Int) (l:List (Int×Int)): ∃l',Lc (.int .i64 k) (.int .i64 v) (l.map eII)=l'.map eII/\(∀q,WL l' q=if q=k then v else WL l q)/\l'.length<=l.length+1:=by
 unfold Lc;rw [Us]
 cases hm:JP l k with
 | none =>
  refine ⟨l++ [(k,v)],by simp [eII],fun q=> ?_,Zb⟩
  have e1:JP (l++ [(k,v)]) k=some l.length:=by
   grind [JP]
  by_cases hq:q=k
  ·grind [WL]
  ·rw [if_neg hq];unfold WL
   have e3:JP (l++ [(k,v)]) q=JP l q:=by
    grind [JP]
   rw [e3]
   cases hc:JP l q with
   | none=>rfl
   | some i =>
    unfold JP at hc
    grind [List.findIdx?_eq_some_iff_getElem]
 | some i =>
  refine ⟨l.set i (k,v),by simp_all [eII],?_,Zb⟩;have hH:Xn [.map (l.map eII)] 0= .map (l.map eII):=rfl;have:=Cc (H:= [.map (l.map eII)]) (o:=0) (l:=l) (k:=k) (i:=i) (v:=v) (K:=fun _ _=> ∀q,WL (l.set i (k,v)) q=if q=k then v else WL l q) hH hm fun h=>h;unfold WV at this;obtain ⟨u,q1,_⟩:=QN hm
  simp_all [QO]
theorem GO {P:Program} {H:List Obj} {t:TypeId} {o:Nat} {l:List (Int×Int)} {k v:Int} {K:V->List Obj->Prop} (hT:GJ P t=some (.int .i64,some (.int .i64 0))) (hH:Xn H o= .map (l.map eII))
  (h: ∀l':List (Int×Int),(∀q,WL l' q=if q=k then v else WL l q)->K .junk (H.set o (.map (l'.map eII)))):QO (Jq P H t (.mp o) (.p (.int .i64 k)) (.p (.int .i64 v))) K:=by
 obtain ⟨kt,et,h1,h2,h3⟩:=AJ hT;obtain ⟨l',e,hg,_⟩:=GN k v l
 grind [Jq,JL,QO]
end Go.AM
namespace Go.Proofs.YtmbelkfkhclnkaaGreatDoor.K
open Go Go.AM Go.Proofs
set_option maxRecDepth 8000
set_option maxHeartbeats 8000000
def Qo (l:List Vis) (k:Nat) (q:Int):Int:=((l.take k).countP fun v=>decide (v.order=q):Nat)
theorem Eg {l:List Vis} {k:Nat} (h:k<l.length) (q:Int):Qo l (k+1) q=if q=(nth l k).order then Qo l k q+1 else Qo l k q:=by
 unfold Qo;rw [List.take_succ_eq_append_getElem h,List.countP_append,Zh h]
 grind
theorem FK {l:List Vis} {k:Nat} (h:k<=l.length) (q:Int):0<=Qo l k q/\Qo l k q<=k:=by
 grind [Qo,List.length_take]
theorem BV {l:List Vis} {k:Nat} :Qx l k=decide (Qo l k (nth l k).order=0):=by
 unfold Qx Qo;rw [Bool.eq_iff_iff];simp
theorem Vw (a b:Int):PC 195 [.p (.int .i64 a),.p (.int .i64 b)] (.bool (VL a b)):=by
 refine Zc Tryz.func195 rfl Oz ?_;simp (disch:=omega) only [Tryz.f195,go_sem,seval];refine gT ?_ ?_<;>intro h<;>simp (disch:=omega) only [Sh.out h,go_sem,seval,↓reduceIte]
 ·simp [VL,h]
 simp_all [VL]
theorem G4 (x:Inst) (r:Rte) (s:She) (hty:0<=r.typ/\r.typ<(x.types.length:Int)) (ho:x.orders.length<=1048576) (ht:x.types.length<=1048576) (hl:r.visits.length<=1048576) (hv:Inr x r.visits)
  (hc:0<=(ZR x r).fixed/\(ZR x r).fixed<=100000/\0<=(ZR x r).perMile/\(ZR x r).perMile<=100/\0<=(ZR x r).perTick/\(ZR x r).perTick<=100) (ho2:0<=(ZR x r).opn/\(ZR x r).opn<=4096)
  (hf: -4096<=s.fin/\s.fin<=8192) (hm:0<=s.miles/\s.miles<=1000000) :
  PC 157 [.p (XW x),.p (XS r),.p (Ek s)] (II (LH x r s)):=by
 have hti:r.typ.toNat<x.types.length:=Za
 have hT:GJ Tryz.prog 264=some (.int .i64,some (.int .i64 0)):=Zg
 unfold LH;have htd:nth x.types r.typ.toNat=ZR x r:=rfl
 generalize ZR x r=t at *
 have e1: ¬r.typ<0:=Za
 have e2: ¬(x.types.length:Int)<=r.typ:=Za
 have p1:0<=t.perMile*s.miles/\t.perMile*s.miles<=100*1000000:=⟨Int.mul_nonneg Za Za,Int.mul_le_mul Za Za Za Za⟩
 have hW: -8192<=s.fin-t.opn/\s.fin-t.opn<=8192:=Za
 have p2: -819200<=t.perTick*(s.fin-t.opn)/\t.perTick*(s.fin-t.opn)<=819200:=by
  generalize s.fin-t.opn=w at hW;have a1:=Int.mul_le_mul_of_nonneg_left hW.2 (show 0<=t.perTick by omega);have a2:=Int.mul_le_mul_of_nonneg_left hW.1 (show 0<=t.perTick by omega);omega
 have p3: -128<=(s.fin-t.opn).tdiv 64/\(s.fin-t.opn).tdiv 64<=128:=by
  grind
 have p4:0<=(s.fin-t.opn).tdiv 64*(s.fin-t.opn).tdiv 64/\(s.fin-t.opn).tdiv 64*(s.fin-t.opn).tdiv 64<=16384:=by
  generalize (s.fin-t.opn).tdiv 64=q at p3;refine ⟨?_,?_⟩
  ·rcases Int.le_total 0 q with h | h
   ·exact Int.mul_nonneg h h
   ·exact Int.mul_nonneg_of_nonpos_of_nonpos h h
  ·rcases Int.le_total 0 q with h | h
   ·have:=Int.mul_le_mul p3.2 p3.2 h Za;omega
   ·have h2:0<= -q:=Za
    have:=Int.mul_le_mul (show-q<=128 by omega) (show-q<=128 by omega) h2 Za
    grind
 refine Zc Tryz.func157 rfl N7 ?_;simp (disch:=omega) only [Tryz.f157,e1,e2,htd,go_sem,seval]
 refine Zl [3,4,6,10,11,59,60] (fun q:Nat×List (Int×Int)=> [(61,.p (.int .i64 q.1))]) (fun q=> [Zj x,Zy r,.cells [.p (.bool s.rest),.p (.int .i64 s.dep),.p (.list s.times_c (s.times.map eTim)),.p (.int .i64 s.fin),.p (.int .i64 s.miles)],Cx 0 0 0 0,PU t,Cx (t.fixed+t.perMile*s.miles+t.perTick*(s.fin-t.opn)) (chgF x r.visits r.typ q.1).1 (chgF x r.visits r.typ q.1).2 ((s.fin-t.opn).tdiv 64*(s.fin-t.opn).tdiv 64),.map (q.2.map eII)])
  (fun q=>q.1<=r.visits.length/\ ∀n,WL q.2 n=Qo r.visits q.1 n) (fun q=>r.visits.length-q.1) (0,[]) ⟨Zb,fun n=>rfl⟩ (Weak.mk ?_) ?_
 ·simp (disch:=omega) only [Zj,Zy,PU,Cx,chgF,go_sem,seval]
 ·rintro ⟨k,m⟩ ⟨hk,hmg⟩;simp only at hk hmg;have hch:=Ai (x:=x) (l:=r.visits) (t:=r.typ) k;simp (disch:=omega) only [Zj,Zy,PU,Cx,go_sem,seval];refine cD ?_ ?_<;>intro h1<;>simp (disch:=omega) only [Sh.out h1,go_sem,seval,↓reduceIte]
  ·have hk2:k<r.visits.length:=Za
   obtain ⟨v1,v2⟩:=hv _ (Xe hk2)
   have e3: ¬(nth r.visits k).order<0:=Za
   have e4: ¬(x.orders.length:Int)<=(nth r.visits k).order:=Za
   have v3:(nth r.visits k).order.toNat<x.orders.length:=Za
   have hcs:=Eg hk2;have hcr:=FK hk (nth r.visits k).order;have hfi:=BV (l:=r.visits) (k:=k);have hch2:chgF x r.visits r.typ (k+1)=_:=chgF.eq_2 x r.visits r.typ k;refine AH hT rfl ?_;rw [hmg];refine Zi ?_;refine GO hT rfl fun m' hm'=> ?_
   have hmg': ∀n,WL m' n=Qo r.visits (k+1) n:=fun n=>by grind
   simp (disch:=omega) only [e3,e4,List.set_cons_succ,List.set_cons_zero,go_sem,seval];refine AH hT rfl ?_;rw [hm',if_pos rfl];refine Zi ?_;refine XQ ?_ ?_<;>intro h2
   ·have h3: ¬Qx r.visits k=true:=by grind
    rw [if_neg h3] at hch2;exact ⟨(k+1,m'),⟨Za,hmg'⟩,Za,Weak.mk (by simp (disch:=omega) only [hch2,go_sem,seval])⟩
   ·have h3:Qx r.visits k=true:=by grind
    rw [if_pos h3] at hch2;refine (Vw (nth x.orders (nth r.visits k).order.toNat).now r.typ).use (Zi ?_);refine cD ?_ ?_<;>intro h4<;>simp (disch:=omega) only [Sh.out h4,go_sem,seval,↓reduceIte]
    ·rw [if_pos h4] at hch2;refine (Vw (nth x.orders (nth r.visits k).order.toNat).last r.typ).use (Zi ?_);refine XQ ?_ ?_<;>intro h5
     ·rw [if_pos h5] at hch2;exact ⟨(k+1,m'),⟨Za,hmg'⟩,Za,Weak.mk (by simp (disch:=omega) only [hch2,go_sem,seval])⟩
     ·rw [if_neg (by rw [h5];simp)] at hch2;exact ⟨(k+1,m'),⟨Za,hmg'⟩,Za,Weak.mk (by simp (disch:=omega) only [hch2,Int.add_zero,go_sem,seval])⟩
    ·rw [if_neg (by rw [h4];simp)] at hch2;refine (Vw (nth x.orders (nth r.visits k).order.toNat).last r.typ).use (Zi ?_);refine XQ ?_ ?_<;>intro h5
     ·rw [if_pos h5] at hch2;exact ⟨(k+1,m'),⟨Za,hmg'⟩,Za,Weak.mk (by simp (disch:=omega) only [hch2,Int.add_zero,go_sem,seval])⟩
     ·rw [if_neg (by rw [h5];simp)] at hch2;exact ⟨(k+1,m'),⟨Za,hmg'⟩,Za,Weak.mk (by simp (disch:=omega) only [hch2,Int.add_zero,go_sem,seval])⟩
  grind
end Go.Proofs.YtmbelkfkhclnkaaGreatDoor.K
namespace Go.Proofs.YtmbelkfkhclnkaaGreatDoor.K
open Go Go.AM Go.Proofs
set_option maxRecDepth 8000
set_option maxHeartbeats 8000000
@[go_sem] theorem RQ {f:FuncId} :(PV.fn f).cells= [.fn f]:=Eq.trans rfl rfl
def PF : AM.Obj:= .cells [.p (.bool false),.p (.int .i64 0),.p (.list true []),.p (.int .i64 0),.p (.int .i64 0)]
theorem BZ (x:Inst) (r:Rte) (hx:InstOk x) (hl:r.visits.length<=1048576) (hrl:r.rests.length<=1048576):ACalls Tryz.prog 112 [.p (XW x),.p (XS r)] [] fun y H'=>y=Aq x r/\H'= []:=by
 have hld:=VO hx;have htl:=hld.typ;have hol:=hld.ord;have chk:=G5 x r hx hl
 have htb:x.types.length<=6:=by have:=hx.types.1;simp only [rng,decide_eq_true_eq] at this;omega
 refine Zd [] Tryz.func112 rfl NR ?_;simp (disch:=omega) only [Tryz.f112,go_sem,seval];refine gF ?_ ?_<;>intro h1<;>simp (disch:=omega) only [Sh.out h1,go_sem,seval,↓reduceIte]
 ·have e:X9 x r=2:=by rw [X9,if_pos Za]
  rw [Yt (e:=2) (by rw [Z6,e];rfl) Za];exact we (by simp (disch:=omega) only [zShe,zSco,List.map_nil,go_sem,seval])
 ·refine cD ?_ ?_<;>intro h2<;>simp (disch:=omega) only [Sh.out h2,go_sem,seval,↓reduceIte]
  ·have e:X9 x r=2:=by simp_all [X9]
   rw [Yt (e:=2) (by rw [Z6,e];rfl) Za];exact we (by simp (disch:=omega) only [zShe,zSco,List.map_nil,go_sem,seval])
  ·have hty:0<=r.typ/\r.typ<(x.types.length:Int):=Za
   have hti:r.typ.toNat<x.types.length:=Za
   have hnum:=Bs hx hti;have htyp:nth x.types r.typ.toNat=ZR x r:=rfl;rw [htyp] at hnum
   have hsk: ∀o∈x.orders,o.skills<9223372036854775808:=fun o hm=>by
    obtain ⟨i,hi,rfl⟩:=List.mem_iff_getElem.1 hm;have:=(hx.orders.2 i hi).skills
    grind [Zh]
   refine Zl [2,3,4,5,25,26] (fun k:Nat=> [(27,.p (.int .i64 k))]) (fun _=> [Zj x,Zy r,PF,Cx 0 0 0 0,.elems 1 [.fn 153,.fn 154,.fn 155]])
    (fun k=>k<=3/\(0<k->Z3 x r.visits=0)/\(1<k-> ¬(r.visits.any fun v=> !YV (ZR x r) (nth x.orders v.order.toNat).skills)=true)/\(2<k->QJ x (ZR x r).cap r.visits=true)) (fun k=>3-k) 0 ⟨Za,Za,Za,Za⟩ (Weak.mk ?_) ?_
   ·simp (disch:=omega) only [Zj,Zy,Cx,PF,go_sem,seval]
   ·rintro k ⟨hk,k1,k2,k3⟩;simp (disch:=omega) only [Zj,Zy,Cx,PF,go_sem,seval];refine cD ?_ ?_<;>intro h3<;>simp (disch:=omega) only [Sh.out h3,go_sem,seval,↓reduceIte]
    ·by_cases hk0:k=0
     ·subst hk0;have he:YX [PV.fn 153,PV.fn 154,PV.fn 155] 0=PV.fn 153:=rfl;simp (disch:=first | omega | (simp only [List.length_cons,List.length_nil,List.length_append,List.length_map,List.length_take,List.length_drop]<;>omega)) only [he,go_sem,seval,↓reduceIte];refine (chk).use (Zi ?_);refine XQ ?_ ?_<;>intro h4
      ·have e:X9 x r=Z3 x r.visits:=by simp_all [X9]
       rw [Yt (e:=Z3 x r.visits) (by simp_all [Z6]) h4];exact we (by simp (disch:=omega) only [zShe,zSco,List.map_nil,go_sem,seval])
      ·exact ⟨1,⟨Za,fun _=>Za,Za,Za⟩,Za,wk⟩
     ·have h0:=k1 Za;have hsq:=Wg h0
      have hr0:X9 x r=if (r.visits.any fun v=> !YV (ZR x r) (nth x.orders v.order.toNat).skills)=true then 18 else if QJ x (ZR x r).cap r.visits=false then 17 else if ¬(0<=r.start/\r.start<=4096/\r.rests.length<=r.visits.length+1) then 2 else 0:=by
       rw [X9,if_neg (fun h=>h hty),if_neg Za]
      by_cases hk1:k=1
      ·subst hk1;have he:YX [PV.fn 153,PV.fn 154,PV.fn 155] 1=PV.fn 154:=rfl;simp (disch:=first | omega | (simp only [List.length_cons,List.length_nil,List.length_append,List.length_map,List.length_take,List.length_drop]<;>omega)) only [he,go_sem,seval,↓reduceIte];refine (G3 x r hty (fun v hv=>by have:=hsq.inr v hv;grind [NO]) hl htl Za Za hsk).use (Zi ?_)
       by_cases h5:(r.visits.any fun v=> !YV (ZR x r) (nth x.orders v.order.toNat).skills)=true
       ·rw [if_pos h5] at hr0 ⊢;rw [Yt (e:=18) (by rw [Z6,hr0];rfl) Za];refine Zi ?_;exact we (by simp (disch:=omega) only [zShe,zSco,List.map_nil,go_sem,seval])
       ·rw [if_neg h5];refine Zi ?_;exact ⟨2,⟨Za,fun _=>h0,fun _=>h5,Za⟩,Za,wk⟩
      ·have hk2:k=2:=Za
       subst hk2;have he:YX [PV.fn 153,PV.fn 154,PV.fn 155] 2=PV.fn 155:=rfl;simp (disch:=first | omega | (simp only [List.length_cons,List.length_nil,List.length_append,List.length_map,List.length_take,List.length_drop]<;>omega)) only [he,go_sem,seval,↓reduceIte];refine (G0 x r hx hl hty h0).use (Zi ?_);rw [if_neg (k2 Za)] at hr0
       cases h5:QJ x (ZR x r).cap r.visits with
       | false =>
        rw [if_pos h5] at hr0;rw [Yt (e:=17) (by rw [Z6,hr0];rfl) Za];simp only [Bool.false_eq_true,if_false];refine Zi ?_;exact we (by simp (disch:=omega) only [zShe,zSco,List.map_nil,go_sem,seval])
       | true =>
        simp only [if_true];refine Zi ?_;exact ⟨3,⟨Za,fun _=>h0,fun _=>k2 Za,fun _=>Zb⟩,Za,wk⟩
    ·have hk3:k=3:=Za
     subst hk3;have h0:=k1 Za;have hsq:=Wg h0
     have hr0:X9 x r=if ¬(0<=r.start/\r.start<=4096/\r.rests.length<=r.visits.length+1) then 2 else 0:=by
      rw [X9,if_neg (fun h=>h hty),if_neg Za,if_neg (k2 Za),if_neg (by grind)]
     have cb:=Lk x r hx hl hrl hty h0;have hok:=Br hx hty hsq
     have hbr:YW x r=XO x r->(XO x r).2=0->(0<=r.start/\r.start<=4096/\r.rests.length<=r.visits.length+1)->(0<=(XO x r).1.fin/\(XO x r).1.fin<=8192)/\(0<=(XO x r).1.miles/\(XO x r).1.miles<=210000):=fun _ hz hs =>
      FC hok ⟨hs.1,hs.2.1⟩ (by grind [X3]) hz
     by_cases h6:0<=r.start/\r.start<=4096/\r.rests.length<=r.visits.length+1
     ·have e:X9 x r=0:=Za
      have ee:Z6 x r=(XO x r).2:=by rw [Z6,if_pos e]
      have eb:YW x r=XO x r:=by rw [YW,if_pos h6]
      have hbr:=fun hz=>hbr eb hz h6;rw [eb] at cb
      have es:De x r=if (XO x r).2=0 then (XO x r).1 else zShe:=by rw [De,ee]
      have ep:Dd x r=if (XO x r).2=0 then LH x r (XO x r).1 else zSco:=by rw [Dd,ee]
      unfold Aq;rw [ee,es,ep];clear ee es ep eb
      generalize XO x r=q at *
      obtain ⟨sh,eb⟩:=q;simp only at cb hbr ⊢;refine XI cb (Zi ?_);refine cD ?_ ?_<;>intro h7<;>simp (disch:=omega) only [Sh.out h7,go_sem,seval,↓reduceIte]
      ·exact we (by simp (disch:=omega) only [zShe,zSco,List.map_nil,go_sem,seval])
      ·have h7':eb=0:=Za
       try rw [if_pos h7',if_pos h7']
       subst h7';obtain ⟨g1,g2⟩:=hbr rfl;refine XB 5 mixed Zg Zg (Zi ?_);refine ZN (G4 x r sh hty Za htl hl hsq.inr hnum.2.2.2.1 Za Za Za) (Zi ?_);exact we
     ·have e:X9 x r=2:=Za
      have eb:YW x r=(zShe,2):=by rw [YW,if_neg h6]
      rw [Yt (e:=2) (by rw [Z6,e];rfl) Za];rw [eb] at cb;refine XI cb (Zi ?_);exact we (by simp (disch:=omega) only [zShe,zSco,List.map_nil,go_sem,seval])
theorem G7 (x:Inst) (r:Rte) (hx:InstOk x) (hl:r.visits.length<=1048576) (hrl:r.rests.length<=1048576):PC 82 [.p (XW x),.p (XS r)] (.int .i64 (Z6 x r)):=by
 have ce:=BZ x r hx hl hrl;refine Zc Tryz.func82 rfl cA ?_;simp (disch:=omega) only [Tryz.f82,go_sem,seval];unfold Aq at ce;refine HF ce ?_;simp (disch:=omega) only [go_sem,seval,↓reduceIte]
theorem Ar {x:Inst} {r:Rte} (h:Z6 x r=0):X9 x r=0:=by
 grind [Z6]
theorem JY {x:Inst} {r:Rte} (h:X9 x r=0):(0<=r.typ/\r.typ<(x.types.length:Int))/\Z3 x r.visits=0/\(0<=r.start/\r.start<=4096/\r.rests.length<=r.visits.length+1):=by
 unfold X9 at h;omega
def Zu (rs:List Rte) (i:Nat):Int:=(rs.countP fun r=>Xx r.visits (i:Int):Nat)
def ZV (us:List Int) (i:Nat):Int:=(us.countP fun u=>decide (u=(i:Int)):Nat)
def XR (rs:List Rte) (i:Nat):Int:=(rs.countP fun r=>decide (r.typ=(i:Int)):Nat)
theorem Ju {rs:List Rte} {k:Nat} (h:k<rs.length) (i:Nat):Zu (rs.take (k+1)) i=if Xx (nth rs k).visits (i:Int)=true then Zu (rs.take k) i+1 else Zu (rs.take k) i:=by
 grind [Zu,List.take_succ_eq_append_getElem,Zh]
theorem Jv {us:List Int} {k:Nat} (h:k<us.length) (i:Nat):ZV (us.take (k+1)) i=if nth us k=(i:Int) then ZV (us.take k) i+1 else ZV (us.take k) i:=by
 grind [ZV,List.take_succ_eq_append_getElem,Zh]
theorem Eh {rs:List Rte} {k:Nat} (h:k<rs.length) (i:Nat):XR (rs.take (k+1)) i=if (nth rs k).typ=(i:Int) then XR (rs.take k) i+1 else XR (rs.take k) i:=by
 grind [XR,List.take_succ_eq_append_getElem,Zh]
theorem Qp {rs:List Rte} {k:Nat} (i:Nat):0<=Zu (rs.take k) i/\Zu (rs.take k) i<=rs.length:=by
 grind [List.length_take,Zu]
theorem Qq {us:List Int} {k:Nat} (i:Nat):0<=ZV (us.take k) i/\ZV (us.take k) i<=us.length:=by
 grind [List.length_take,ZV]
theorem FM {rs:List Rte} {k:Nat} (i:Nat):0<=XR (rs.take k) i/\XR (rs.take k) i<=rs.length:=by
 grind [List.length_take,XR]
def Zx (f:Nat->Int) (n:Nat):List Int:=(List.range n).map f
theorem VX {f n} :(Zx f n).length=n:=by simp [Zx]
theorem X8 {f n j} (h:j<n):nth (Zx f n) j=f j:=Y1 h
theorem WR {f n j v} :(Zx f n).set j v=Zx (fun i=>if i=j then v else f i) n:=by
 apply List.ext_getElem (by simp [Zx]);intro i h1 h2;rw [List.getElem_set];simp [Zx];omega
theorem X5 {f g:Nat->Int} {n:Nat} (h: ∀i,i<n->f i=g i):Zx f n=Zx g n:=List.map_congr_left fun i hi=>h i (List.mem_range.1 hi)
theorem C5 {x:Inst} {l:List Vis} (hi:Inr x l) (i:Nat) (h:i<=62):(((Yn l:Nat):Int).fdiv (2^i))%2=if Xx l (i:Int)=true then 1 else 0:=by
 have h1:U1 ((Yn l:Nat):Int) (i:Int)=Xx l (i:Int):=by
  rw [Bc _ _ h,Bool.eq_iff_iff,QS,WE]
  constructor
  ·rintro ⟨v,hv,e⟩;exact ⟨v,hv,by have:=hi v hv;omega⟩
  grind
 rw [<- h1];unfold U1
 grind
theorem Q6 {P Q:Prop} (h:Q) (e:Q->P:=by intro h;simp (disch:=omega) only [Zj,Zv,go_sem,seval];exact h):P:=e h
theorem Jx (x:Inst) (p:Pln) (htl:x.types.length<=1048576) (hr:p.routes.length<=1048576) (hty: ∀r∈p.routes,0<=r.typ/\r.typ<(x.types.length:Int)) :
  PC 86 [.p (XW x),.p (Va p)] (.bool ((List.range x.types.length).any fun t=>decide ((nth x.types t).count<XR p.routes t))):=by
 refine Zc Tryz.func86 rfl cF ?_;simp (disch:=omega) only [Tryz.f86,go_sem,seval]
 have hz:List.replicate x.types.length (PV.int .i64 0)=(Zx (XR (p.routes.take 0)) x.types.length).map eI:=by
  rw [X5 (g:=fun _=>0) (fun i _=>by simp [XR]),Zx,List.map_map];rw [show (eI∘fun _:Nat=>(0:Int))=fun _=>PV.int .i64 0 from rfl,List.map_const',List.length_range]
 have hrl: ∀f,(Zx f x.types.length).length=x.types.length:=fun f=>VX;refine Zl [2,5,15,16] (fun k:Nat=> [(17,.p (.int .i64 k))]) (fun k=> [Zj x,Zv p,.elems 1 ((Zx (XR (p.routes.take k)) x.types.length).map eI)]) (fun k=>k<=p.routes.length) (fun k=>p.routes.length-k) 0 Zb (Weak.mk ?_) ?_
 ·simp (disch:=omega) only [Zj,Zv,hz,go_sem,seval]
 ·intro k hk;refine Q6 ?_;refine cD ?_ ?_<;>intro h1<;>simp (disch:=omega) only [Sh.out h1,go_sem,seval,↓reduceIte]
  ·have hk2:k<p.routes.length:=Za
   obtain ⟨t1,t2⟩:=hty _ (Zp hk2)
   have hti:(nth p.routes k).typ.toNat<x.types.length:=Za
   have hsu:=Eh hk2;have hrg:=FM (rs:=p.routes) (k:=k)
   have hnx:(Zx (XR (p.routes.take k)) x.types.length).set (nth p.routes k).typ.toNat (XR (p.routes.take k) (nth p.routes k).typ.toNat+1)=Zx (XR (p.routes.take (k+1))) x.types.length:=by
    rw [WR];refine X5 fun i _=> ?_
    grind
   have hrr:=hrl (XR (p.routes.take k));have hg:=hrg (nth p.routes k).typ.toNat;have hnt:nth (Zx (XR (p.routes.take k)) x.types.length) (nth p.routes k).typ.toNat=XR (p.routes.take k) (nth p.routes k).typ.toNat:=X8 hti
   have he:YX ((Zx (XR (p.routes.take k)) x.types.length).map eI) (nth p.routes k).typ.toNat= .int .i64 (XR (p.routes.take k) (nth p.routes k).typ.toNat):=by rw [Ym Za,hnt];rfl
   generalize XR (p.routes.take k) (nth p.routes k).typ.toNat=c at *
   generalize Zx (XR (p.routes.take k)) x.types.length=R at *
   have Zs:(R.map eI).set (nth p.routes k).typ.toNat (.int .i64 (c+1))=(Zx (XR (p.routes.take (k+1))) x.types.length).map eI:=by rw [<- hnx,List.map_set];rfl
   simp (disch:=first | omega | (simp only [List.length_cons,List.length_nil,List.length_append,List.length_map,List.length_take,List.length_drop]<;>omega)) only [he,hrr,hti,eq_self,true_and,go_sem,seval];exact ⟨k+1,Za,Za,Weak.mk (by simp (disch:=omega) only [Zs,go_sem,seval])⟩
  ·have hkl:k=p.routes.length:=Za
   subst hkl;rw [List.take_length];have hrr:=hrl (XR p.routes);have hnt: ∀j,j<x.types.length->nth (Zx (XR p.routes) x.types.length) j=XR p.routes j:=fun j hj=>X8 hj
   generalize Zx (XR p.routes) x.types.length=R at *
   simp (disch:=first | omega | (simp only [List.length_cons,List.length_nil,List.length_append,List.length_map,List.length_take,List.length_drop]<;>omega)) only [hrr,eq_self,go_sem,seval,↓reduceIte];refine Zl [2,29,30] (fun k:Nat=> [(31,.p (.int .i64 k))]) (fun _=> [Zj x,Zv p,.elems 1 (R.map eI)]) (fun k=>k<=x.types.length/\ ∀j,j<k->decide ((nth x.types j).count<XR p.routes j)=false) (fun k=>x.types.length-k) 0 Zb (Weak.mk ?_) ?_
   ·simp (disch:=omega) only [Zj,Zv,go_sem,seval]
   ·rintro k ⟨hk,hno⟩;refine Q6 ?_;refine cD ?_ ?_<;>intro h2<;>simp (disch:=omega) only [Sh.out h2,go_sem,seval,↓reduceIte]
    ·have hk2:k<x.types.length:=Za
     have he:YX (R.map eI) k= .int .i64 (XR p.routes k):=by rw [Ym Za,hnt k hk2];rfl
     simp (disch:=first | omega | (simp only [List.length_cons,List.length_nil,List.length_append,List.length_map,List.length_take,List.length_drop]<;>omega)) only [he,hrr,hk2,eq_self,true_and,go_sem,seval,↓reduceIte];refine XQ ?_ ?_<;>intro h3
     ·grind
     ·exact ⟨k+1,⟨Za,Zo.2 ⟨hno,by grind⟩⟩,Za,wk⟩
    grind
def UM (x:Inst) (us:List Int):Bool:=us.all fun u=>decide (0<=u)&&decide (u<(x.orders.length:Int))
theorem Af {x:Inst} {l:List Vis} (hi:Inr x l) (i:Nat) (h:i<=62):IntKind.i64.wrap ((BitVec.ofInt 64 ((Yn l / pw i:Nat):Int)&&&1#64).toNat:Int)=if Xx l (i:Int)=true then 1 else 0:=by
 have h1:=CU ((Yn l / pw i:Nat):Int);rw [show BitVec.ofInt 64 1=1#64 from rfl] at h1;rw [h1]
 have h2:(Yn l).testBit i=Xx l (i:Int):=by
  rw [Bool.eq_iff_iff,QS,WE]
  constructor
  ·rintro ⟨v,hv,e⟩;exact ⟨v,hv,by have:=hi v hv;omega⟩
  grind
 rw [<- h2,Nat.testBit_eq_decide_div_mod_eq];unfold pw
 grind
def EU (x:Inst) (p:Pln) (c:Bool) (A B:List Int):List AM.Obj:= [Zj x,Zv p,.elems 1 ((if c=true then A else B).map eI),.elems 1 ((if c=true then B else A).map eI)]
theorem Aj (x:Inst) (p:Pln) (hn:x.orders.length<=10) (hr:p.routes.length<=1048576) (hu:p.unserved.length<=1048576) (hv: ∀r∈p.routes,Inr x r.visits/\r.visits.length<=1048576) :
  ACalls Tryz.prog 83 [.p (XW x),.p (Va p)] [] fun y H'=>y=(if UM x p.unserved=true then .tup [.p (.list false ((Zx (Zu p.routes) x.orders.length).map eI)),.p (.list false ((Zx (ZV p.unserved) x.orders.length).map eI)),.p (.bool true)] else .tup [.p (.list true []),.p (.list true []),.p (.bool false)])/\H'= []:=by
 refine Zd [1,19] Tryz.func83 rfl cB ?_;simp (disch:=omega) only [Tryz.f83,go_sem,seval]
 have hz:List.replicate x.orders.length (PV.int .i64 0)=(Zx (fun _=>0) x.orders.length).map eI:=by
  rw [Zx,List.map_map];rw [show (eI∘fun _:Nat=>(0:Int))=fun _=>PV.int .i64 0 from rfl,List.map_const',List.length_range]
 have hrl: ∀f,(Zx f x.orders.length).length=x.orders.length:=fun f=>VX;refine XN [2,3] (fun c:Bool=> [(4,.sl (if c=true then 2 else 3) 0 x.orders.length x.orders.length),(5,.sl (if c=true then 3 else 2) 0 x.orders.length x.orders.length),(6,.p (.bool false))]) (fun c=>EU x p c (Zx (fun _=>0) x.orders.length) (Zx (fun _=>0) x.orders.length)) (fun _=>True) ?_ ?_
 ·refine Zi ?_;refine Vr [3,7,8] 9 mixed Zg Zg Zg Zb (Zi ?_);refine Up 3 7 _ _ _ _ Zg (by refine Zi ?_;exact ⟨rfl,rfl⟩) (by refine Zi ?_;exact ⟨rfl,rfl⟩) ?_ ?_
  ·refine Up 7 8 _ _ _ _ Zg (by refine Zi ?_;exact ⟨rfl,rfl⟩) (by refine Zi ?_;exact ⟨rfl,rfl⟩) ?_ ?_
   ·refine Xo 8 _ _ Zg (by refine Zi ?_;exact ⟨rfl,rfl⟩) (W4 ?_);refine Zi ?_;exact ⟨true,Weak.mk (by simp (disch:=omega) only [EU,Zj,Zv,hz,go_sem,seval,↓reduceIte])⟩
   ·refine Xo 7 _ _ Zg (by refine Zi ?_;exact ⟨rfl,rfl⟩) (W4 ?_);refine Zi ?_;exact ⟨true,Weak.mk (by simp (disch:=omega) only [EU,Zj,Zv,hz,go_sem,seval,↓reduceIte])⟩
  ·refine Xo 3 _ _ Zg (by refine Zi ?_;exact ⟨rfl,rfl⟩) (Xo 8 _ _ Zg (by refine Zi ?_;exact ⟨rfl,rfl⟩) (W4 ?_));refine Zi ?_;exact ⟨false,Weak.mk (by simp (disch:=omega) only [EU,Zj,Zv,hz,Bool.false_eq_true,go_sem,seval,↓reduceIte])⟩
 ·intro c _;have hb: ∀k,k<p.routes.length->KE (nth p.routes k).visits=(((Yn (nth p.routes k).visits:Nat):Int),0):=fun k hk=>DA (hv _ (Zp hk)).1 hn
  have hz2:Zx (fun _=>0) x.orders.length=Zx (Zu (p.routes.take 0)) x.orders.length:=X5 fun i _=>by simp [Zu]
  have hz3:Zx (fun _=>0) x.orders.length=Zx (ZV (p.unserved.take 0)) x.orders.length:=X5 fun i _=>by simp [ZV]
  cases c
  ·refine Ze [19] _ _ _ _ ?_;simp (disch:=omega) only [EU,Zj,Zv,Bool.false_eq_true,go_sem,seval];refine ZI [19] [2,3,4,5,23,24] (fun k:Nat=> [(25,.p (.int .i64 k))]) (fun k=> [Zj x,Zv p,.elems 1 ((Zx (fun _=>0) x.orders.length).map eI),.elems 1 ((Zx (Zu (p.routes.take k)) x.orders.length).map eI)]) (fun k=>k<=p.routes.length) (fun k=>p.routes.length-k) 0 Zb (Weak.mk ?_) ?_
   ·simp (disch:=omega) only [Zj,Zv,hz2,List.take_zero,go_sem,seval]
   ·intro k hk;refine Q6 ?_;refine cD ?_ ?_<;>intro h1<;>simp (disch:=omega) only [Sh.out h1,go_sem,seval,↓reduceIte]
    ·have hk2:k<p.routes.length:=Za
     obtain ⟨v1,v2⟩:=hv _ (Zp hk2);have hso:=WT (nth p.routes k) v2;rw [hb k hk2] at hso;refine XI hso ?_;have hr0:=hrl (Zu (p.routes.take k));simp (disch:=first | omega | (simp only [List.length_cons,List.length_nil,List.length_append,List.length_map,List.length_take,List.length_drop]<;>omega)) only [hr0,eq_self,go_sem,seval,↓reduceIte];refine Zl [2,3,4,5,9,23,24,25,35] (fun i:Nat=> [(36,.p (.int .i64 i))]) (fun i=> [Zj x,Zv p,.elems 1 ((Zx (fun _=>0) x.orders.length).map eI),.elems 1 ((Zx (fun j=>if j<i then Zu (p.routes.take (k+1)) j else Zu (p.routes.take k) j) x.orders.length).map eI),Zy (nth p.routes k)]) (fun i=>i<=x.orders.length) (fun i=>x.orders.length-i) 0 Zb (Weak.mk ?_) ?_
     ·simp (disch:=omega) only [Zj,Zv,Zy,go_sem,seval]
      congr 1
     ·intro i hi;have hri:=hrl (fun j=>if j<i then Zu (p.routes.take (k+1)) j else Zu (p.routes.take k) j);simp (disch:=omega) only [Zj,Zv,Zy,go_sem,seval];refine XQ ?_ ?_<;>intro h2
      ·have hi2:i<x.orders.length:=Za
       have hsu:=Ju hk2 i;have hrg:=Qp (rs:=p.routes) (k:=k) i;have hbt:=C5 v1 i Za
       have hn1:nth (Zx (fun j=>if j<i then Zu (p.routes.take (k+1)) j else Zu (p.routes.take k) j) x.orders.length) i=Zu (p.routes.take k) i:=by simp_all [X8]
       have he:YX ((Zx (fun j=>if j<i then Zu (p.routes.take (k+1)) j else Zu (p.routes.take k) j) x.orders.length).map eI) i= .int .i64 (Zu (p.routes.take k) i):=by rw [Ym Za,hn1];rfl
       have Zs:((Zx (fun j=>if j<i then Zu (p.routes.take (k+1)) j else Zu (p.routes.take k) j) x.orders.length).map eI).set i (.int .i64 (Zu (p.routes.take (k+1)) i))=(Zx (fun j=>if j<i+1 then Zu (p.routes.take (k+1)) j else Zu (p.routes.take k) j) x.orders.length).map eI:=by
        have h0:=WR (f:=fun j=>if j<i then Zu (p.routes.take (k+1)) j else Zu (p.routes.take k) j) (n:=x.orders.length) (j:=i) (v:=Zu (p.routes.take (k+1)) i);rw [show PV.int IntKind.i64 (Zu (p.routes.take (k+1)) i)=eI (Zu (p.routes.take (k+1)) i) from rfl,<- List.map_set,h0]
        congr 1
        refine X5 fun j _=> ?_
        grind
       refine XB 9 mixed Zg Zg ?_;refine Zi ?_;simp (disch:=first | omega | (simp only [List.length_cons,List.length_nil,List.length_append,List.length_map,List.length_take,List.length_drop]<;>omega)) only [he,hri,hi2,eq_self,true_and,go_sem,seval];refine ⟨i+1,Za,Za,Weak.mk ?_⟩;have hbs:=Af v1 i Za
       have hw:IntKind.i64.wrap (Zu (p.routes.take k) i+(if Xx (nth p.routes k).visits (i:Int)=true then 1 else 0))=Zu (p.routes.take (k+1)) i:=by
        rw [hsu]
        split
        ·grind [IntWalk.i64_in]
        ·rw [Int.add_zero];grind [IntWalk.i64_in]
       refine Zi ?_
       erw [hbs]
       grind
      ·have hin:i=x.orders.length:=Za
       have hfin:Zx (fun j=>if j<i then Zu (p.routes.take (k+1)) j else Zu (p.routes.take k) j) x.orders.length=Zx (Zu (p.routes.take (k+1))) x.orders.length:=X5 fun j hj=>Za
       exact ⟨k+1,Za,Za,Weak.mk (by simp (disch:=omega) only [hfin,go_sem,seval])⟩
    ·have hkl:k=p.routes.length:=Za
     subst hkl;rw [List.take_length];refine ZI [19] [2,52,53] (fun k:Nat=> [(4,.sl 3 0 x.orders.length x.orders.length),(5,.sl 2 0 x.orders.length x.orders.length),(54,.p (.int .i64 k))]) (fun k=> [Zj x,Zv p,.elems 1 ((Zx (ZV (p.unserved.take k)) x.orders.length).map eI),.elems 1 ((Zx (Zu p.routes) x.orders.length).map eI)]) (fun k=>k<=p.unserved.length/\ ∀j,j<k->0<=nth p.unserved j/\nth p.unserved j<(x.orders.length:Int)) (fun k=>p.unserved.length-k) 0 Zb (Weak.mk ?_) ?_
     ·simp (disch:=omega) only [Zj,Zv,hz3,List.take_zero,go_sem,seval]
     ·rintro k ⟨hk,hno⟩;refine Q6 ?_
      have hbad:k<p.unserved.length->(decide (0<=nth p.unserved k)&&decide (nth p.unserved k<(x.orders.length:Int)))=false->UM x p.unserved=false:=fun h1 h2=>by
       grind [UM,Zp]
      refine cD ?_ ?_<;>intro h2<;>simp (disch:=omega) only [Sh.out h2,go_sem,seval,↓reduceIte]
      ·have hk2:k<p.unserved.length:=Za
       refine gF ?_ ?_<;>intro h3<;>simp (disch:=omega) only [Sh.out h3,go_sem,seval,↓reduceIte]
       ·rw [hbad hk2 (by simp;omega)];exact we (by simp (disch:=omega) only [go_sem,seval,↓reduceIte])
       ·refine cD ?_ ?_<;>intro h4<;>simp (disch:=omega) only [Sh.out h4,go_sem,seval]
        ·rw [hbad hk2 (by simp;omega)];exact we (by simp (disch:=omega) only [go_sem,seval,↓reduceIte])
        ·have hui:(nth p.unserved k).toNat<x.orders.length:=Za
         have hsu:=Jv hk2;have hg:=Qq (us:=p.unserved) (k:=k) (nth p.unserved k).toNat;have hrr:=hrl (ZV (p.unserved.take k))
         have hnx:(Zx (ZV (p.unserved.take k)) x.orders.length).set (nth p.unserved k).toNat (ZV (p.unserved.take k) (nth p.unserved k).toNat+1)=Zx (ZV (p.unserved.take (k+1))) x.orders.length:=by
          rw [WR];refine X5 fun i _=> ?_
          grind
         have he:YX ((Zx (ZV (p.unserved.take k)) x.orders.length).map eI) (nth p.unserved k).toNat= .int .i64 (ZV (p.unserved.take k) (nth p.unserved k).toNat):=by rw [Ym Za,X8 hui];rfl
         have Zs:((Zx (ZV (p.unserved.take k)) x.orders.length).map eI).set (nth p.unserved k).toNat (.int .i64 (ZV (p.unserved.take k) (nth p.unserved k).toNat+1))=(Zx (ZV (p.unserved.take (k+1))) x.orders.length).map eI:=by rw [<- hnx,List.map_set];rfl
         generalize ZV (p.unserved.take k) (nth p.unserved k).toNat=c at *
         simp (disch:=first | omega | (simp only [List.length_cons,List.length_nil,List.length_append,List.length_map,List.length_take,List.length_drop]<;>omega)) only [he,hrr,hui,eq_self,true_and,go_sem,seval];exact ⟨k+1,⟨Za,Zo.2 ⟨hno,Za⟩⟩,Za,Weak.mk (by simp (disch:=omega) only [Zs,go_sem,seval])⟩
      ·have hkl:k=p.unserved.length:=Za
       subst hkl
       have Z5:UM x p.unserved=true:=by
        rw [UM,List.all_eq_true];intro u hu;obtain ⟨j,hj,rfl⟩:=List.mem_iff_getElem.1 hu
        grind [Zh]
       rw [Z5,List.take_length];have r1:=hrl (Zu p.routes);have r2:=hrl (ZV p.unserved);refine Zz (Weak.fz (o:=2) (by rfl)) ?_;refine Zz (Weak.fz (o:=3) (by rfl)) (Ze [] _ _ _ _ (V7 ?_));rw [if_pos r1,if_pos r2];refine Zi ?_;exact we
  ·refine Ze [19] _ _ _ _ ?_;simp (disch:=omega) only [EU,Zj,Zv,go_sem,seval];refine ZI [19] [2,3,4,5,23,24] (fun k:Nat=> [(25,.p (.int .i64 k))]) (fun k=> [Zj x,Zv p,.elems 1 ((Zx (Zu (p.routes.take k)) x.orders.length).map eI),.elems 1 ((Zx (fun _=>0) x.orders.length).map eI)]) (fun k=>k<=p.routes.length) (fun k=>p.routes.length-k) 0 Zb (Weak.mk ?_) ?_
   ·simp (disch:=omega) only [Zj,Zv,hz2,List.take_zero,go_sem,seval]
   ·intro k hk;refine Q6 ?_;refine cD ?_ ?_<;>intro h1<;>simp (disch:=omega) only [Sh.out h1,go_sem,seval,↓reduceIte]
    ·have hk2:k<p.routes.length:=Za
     obtain ⟨v1,v2⟩:=hv _ (Zp hk2);have hso:=WT (nth p.routes k) v2;rw [hb k hk2] at hso;refine XI hso ?_;have hr0:=hrl (Zu (p.routes.take k));simp (disch:=first | omega | (simp only [List.length_cons,List.length_nil,List.length_append,List.length_map,List.length_take,List.length_drop]<;>omega)) only [hr0,eq_self,go_sem,seval,↓reduceIte];refine Zl [2,3,4,5,9,23,24,25,35] (fun i:Nat=> [(36,.p (.int .i64 i))]) (fun i=> [Zj x,Zv p,.elems 1 ((Zx (fun j=>if j<i then Zu (p.routes.take (k+1)) j else Zu (p.routes.take k) j) x.orders.length).map eI),.elems 1 ((Zx (fun _=>0) x.orders.length).map eI),Zy (nth p.routes k)]) (fun i=>i<=x.orders.length) (fun i=>x.orders.length-i) 0 Zb (Weak.mk ?_) ?_
     ·simp (disch:=omega) only [Zj,Zv,Zy,go_sem,seval]
      congr 1
     ·intro i hi;have hri:=hrl (fun j=>if j<i then Zu (p.routes.take (k+1)) j else Zu (p.routes.take k) j);simp (disch:=omega) only [Zj,Zv,Zy,go_sem,seval];refine XQ ?_ ?_<;>intro h2
      ·have hi2:i<x.orders.length:=Za
       have hsu:=Ju hk2 i;have hrg:=Qp (rs:=p.routes) (k:=k) i;have hbt:=C5 v1 i Za
       have hn1:nth (Zx (fun j=>if j<i then Zu (p.routes.take (k+1)) j else Zu (p.routes.take k) j) x.orders.length) i=Zu (p.routes.take k) i:=by simp_all [X8]
       have he:YX ((Zx (fun j=>if j<i then Zu (p.routes.take (k+1)) j else Zu (p.routes.take k) j) x.orders.length).map eI) i= .int .i64 (Zu (p.routes.take k) i):=by rw [Ym Za,hn1];rfl
       have Zs:((Zx (fun j=>if j<i then Zu (p.routes.take (k+1)) j else Zu (p.routes.take k) j) x.orders.length).map eI).set i (.int .i64 (Zu (p.routes.take (k+1)) i))=(Zx (fun j=>if j<i+1 then Zu (p.routes.take (k+1)) j else Zu (p.routes.take k) j) x.orders.length).map eI:=by
        have h0:=WR (f:=fun j=>if j<i then Zu (p.routes.take (k+1)) j else Zu (p.routes.take k) j) (n:=x.orders.length) (j:=i) (v:=Zu (p.routes.take (k+1)) i);rw [show PV.int IntKind.i64 (Zu (p.routes.take (k+1)) i)=eI (Zu (p.routes.take (k+1)) i) from rfl,<- List.map_set,h0]
        congr 1
        refine X5 fun j _=> ?_
        grind
       refine XB 9 mixed Zg Zg ?_;refine Zi ?_;simp (disch:=first | omega | (simp only [List.length_cons,List.length_nil,List.length_append,List.length_map,List.length_take,List.length_drop]<;>omega)) only [he,hri,hi2,eq_self,true_and,go_sem,seval];refine ⟨i+1,Za,Za,Weak.mk ?_⟩;have hbs:=Af v1 i Za
       have hw:IntKind.i64.wrap (Zu (p.routes.take k) i+(if Xx (nth p.routes k).visits (i:Int)=true then 1 else 0))=Zu (p.routes.take (k+1)) i:=by
        rw [hsu]
        split
        ·grind [IntWalk.i64_in]
        ·rw [Int.add_zero];grind [IntWalk.i64_in]
       refine Zi ?_
       erw [hbs]
       grind
      ·have hin:i=x.orders.length:=Za
       have hfin:Zx (fun j=>if j<i then Zu (p.routes.take (k+1)) j else Zu (p.routes.take k) j) x.orders.length=Zx (Zu (p.routes.take (k+1))) x.orders.length:=X5 fun j hj=>Za
       exact ⟨k+1,Za,Za,Weak.mk (by simp (disch:=omega) only [hfin,go_sem,seval])⟩
    ·have hkl:k=p.routes.length:=Za
     subst hkl;rw [List.take_length];refine ZI [19] [2,52,53] (fun k:Nat=> [(4,.sl 2 0 x.orders.length x.orders.length),(5,.sl 3 0 x.orders.length x.orders.length),(54,.p (.int .i64 k))]) (fun k=> [Zj x,Zv p,.elems 1 ((Zx (Zu p.routes) x.orders.length).map eI),.elems 1 ((Zx (ZV (p.unserved.take k)) x.orders.length).map eI)]) (fun k=>k<=p.unserved.length/\ ∀j,j<k->0<=nth p.unserved j/\nth p.unserved j<(x.orders.length:Int)) (fun k=>p.unserved.length-k) 0 Zb (Weak.mk ?_) ?_
     ·simp (disch:=omega) only [Zj,Zv,hz3,List.take_zero,go_sem,seval]
     ·rintro k ⟨hk,hno⟩;refine Q6 ?_
      have hbad:k<p.unserved.length->(decide (0<=nth p.unserved k)&&decide (nth p.unserved k<(x.orders.length:Int)))=false->UM x p.unserved=false:=fun h1 h2=>by
       grind [UM,Zp]
      refine cD ?_ ?_<;>intro h2<;>simp (disch:=omega) only [Sh.out h2,go_sem,seval,↓reduceIte]
      ·have hk2:k<p.unserved.length:=Za
       refine gF ?_ ?_<;>intro h3<;>simp (disch:=omega) only [Sh.out h3,go_sem,seval,↓reduceIte]
       ·rw [hbad hk2 (by simp;omega)];exact we (by simp (disch:=omega) only [go_sem,seval,↓reduceIte])
       ·refine cD ?_ ?_<;>intro h4<;>simp (disch:=omega) only [Sh.out h4,go_sem,seval]
        ·rw [hbad hk2 (by simp;omega)];exact we (by simp (disch:=omega) only [go_sem,seval,↓reduceIte])
        ·have hui:(nth p.unserved k).toNat<x.orders.length:=Za
         have hsu:=Jv hk2;have hg:=Qq (us:=p.unserved) (k:=k) (nth p.unserved k).toNat;have hrr:=hrl (ZV (p.unserved.take k))
         have hnx:(Zx (ZV (p.unserved.take k)) x.orders.length).set (nth p.unserved k).toNat (ZV (p.unserved.take k) (nth p.unserved k).toNat+1)=Zx (ZV (p.unserved.take (k+1))) x.orders.length:=by
          rw [WR];refine X5 fun i _=> ?_
          grind
         have he:YX ((Zx (ZV (p.unserved.take k)) x.orders.length).map eI) (nth p.unserved k).toNat= .int .i64 (ZV (p.unserved.take k) (nth p.unserved k).toNat):=by rw [Ym Za,X8 hui];rfl
         have Zs:((Zx (ZV (p.unserved.take k)) x.orders.length).map eI).set (nth p.unserved k).toNat (.int .i64 (ZV (p.unserved.take k) (nth p.unserved k).toNat+1))=(Zx (ZV (p.unserved.take (k+1))) x.orders.length).map eI:=by rw [<- hnx,List.map_set];rfl
         generalize ZV (p.unserved.take k) (nth p.unserved k).toNat=c at *
         simp (disch:=first | omega | (simp only [List.length_cons,List.length_nil,List.length_append,List.length_map,List.length_take,List.length_drop]<;>omega)) only [he,hrr,hui,eq_self,true_and,go_sem,seval];exact ⟨k+1,⟨Za,Zo.2 ⟨hno,Za⟩⟩,Za,Weak.mk (by simp (disch:=omega) only [Zs,go_sem,seval])⟩
      ·have hkl:k=p.unserved.length:=Za
       subst hkl
       have Z5:UM x p.unserved=true:=by
        rw [UM,List.all_eq_true];intro u hu;obtain ⟨j,hj,rfl⟩:=List.mem_iff_getElem.1 hu
        grind [Zh]
       rw [Z5,List.take_length];have r1:=hrl (Zu p.routes);have r2:=hrl (ZV p.unserved);refine Zz (Weak.fz (o:=2) (by rfl)) ?_;refine Zz (Weak.fz (o:=3) (by rfl)) (Ze [] _ _ _ _ (V7 ?_));rw [if_pos r1,if_pos r2];refine Zi ?_;exact we
def Kt (x:Inst):List Rte->Int
 | []=>0
 | r::l=>if Z6 x r=0 then Kt x l else Z6 x r
theorem Da {x:Inst} : ∀ {l:List Rte} {k:Nat},k<l.length->(∀j,j<k->Z6 x (nth l j)=0)-> ¬Z6 x (nth l k)=0->Kt x l=Z6 x (nth l k)
 | r::l,0,_,_,h=>by rw [Kt,if_neg (show ¬Z6 x r=0 from h)];rfl
 | r::l,k+1,hk,h0,h=>by
  rw [Kt,if_pos (show Z6 x r=0 from h0 0 Za)];exact Da (l:=l) (k:=k) (by grind) (fun j hj=>h0 (j+1) Za) h
theorem Db {x:Inst} : ∀ {l:List Rte},(∀j,j<l.length->Z6 x (nth l j)=0)->Kt x l=0
 | [],_=>rfl
 | r::l,h=>by
  rw [Kt,if_pos (show Z6 x r=0 from h 0 Zb)];exact Db fun j hj=>h (j+1) (by grind)
end Go.Proofs.YtmbelkfkhclnkaaGreatDoor.K
