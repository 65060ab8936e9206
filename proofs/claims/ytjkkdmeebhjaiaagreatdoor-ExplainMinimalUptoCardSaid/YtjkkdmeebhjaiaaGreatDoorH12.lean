/- Declarations that the closing texts need, part 12: joined by tools/slim.py. -/
import Derived.Test.YtjkkdmeebhjaiaaGreatDoorH11
import Derived.Test.YtjkkdmeebhjaiaaGreatDoorRows
namespace Go.Proofs.YtjkkdmeebhjaiaaGreatDoor.K
open Go Go.AM Go.Proofs
theorem aO : Tryz.prog.cellsOf 3=1:=Zg
theorem Zn3 : Tryz.prog.cellsOf 4=1:=Zg
theorem ZiF : Tryz.prog.cellsOf 9=1:=Zg
theorem Ziw : Tryz.prog.cellsOf 22=1:=Zg
theorem Zix : Tryz.prog.cellsOf 23=1:=Zg
theorem xP : Tryz.prog.cellsOf 25=2:=Zg
theorem ZkG : He Tryz.prog 25=some [(0,22),(1,23)]:=Zg
theorem Ziy : Tryz.prog.cellsOf 26=1:=Zg
theorem Ziz : Tryz.prog.cellsOf 27=1:=Zg
theorem ZiA : Tryz.prog.cellsOf 28=1:=Zg
theorem ZiB : Tryz.prog.cellsOf 30=6:=Zg
theorem yH : He Tryz.prog 30=some [(0,25),(2,26),(3,27),(4,28),(5,28)]:=Zg
theorem xQ : Tryz.prog.cellsOf 55=1:=Zg
theorem ZiC : Tryz.prog.cellsOf 63=14:=Zg
theorem yI : He Tryz.prog 63=some [(0,9),(1,3),(2,3),(3,3),(4,55),(5,3),(6,3),(7,3),(8,3),(9,3),(10,3),(11,3),(12,3),(13,3)]:=Zg
theorem xR : Tryz.prog.cellsOf 65=4:=Zg
theorem ZkH : He Tryz.prog 65=some [(0,3),(1,3),(2,3),(3,3)]:=Zg
theorem ZiD : Tryz.prog.cellsOf 67=16:=Zg
theorem yJ : He Tryz.prog 67=some [(0,9),(1,55),(2,65),(6,65),(10,3),(11,3),(12,3),(13,3),(14,3),(15,4)]:=Zg
theorem ZiE : Tryz.prog.cellsOf 89=2:=Zg
theorem yK : He Tryz.prog 89=some [(0,3),(1,3)]:=Zg
theorem ZiG : Tryz.prog.cellsOf 99=1:=Zg
theorem Zas : Tryz.prog.cellsOf 101=6:=Zg
theorem nL : He Tryz.prog 101=some [(0,3),(1,3),(2,3),(3,3),(4,99),(5,99)]:=Zg
theorem Zat : Tryz.prog.cellsOf 139=2:=Zg
theorem nM : He Tryz.prog 139=some [(0,3),(1,3)]:=Zg
set_option linter.unusedVariables false
set_option linter.unusedSimpArgs false
mutual
theorem PL {H:Type} :(d:DataW H)->Hd d<=Rows.uptoBulk d
 | .lit l=>by cases l<;>simp [Hd,Rows.uptoBulk]
 | .nil=>by simp [Hd,Rows.uptoBulk]
 | .ptr d=>by have:=PL d;simp only [Hd,Rows.uptoBulk];omega
 | .slice es sp=>by have:=Ci es;have:=Ci sp;simp only [Hd,Rows.uptoBulk];omega
 | .agg ps=>by have:=Ci ps;simp only [Hd,Rows.uptoBulk];omega
 | .iface _ d=>by have:=PL d;simp only [Hd,Rows.uptoBulk];omega
 | .map es=>by simp only [Hd,Rows.uptoBulk];omega
 | .held h=>by simp [Hd,Rows.uptoBulk]
theorem Ci {H:Type} :(l:List (DataW H))->KT l<=Rows.uptoBulkAll l
 | []=>by simp [KT,Rows.uptoBulkAll]
 | d::r=>by have:=PL d;have:=Ci r;simp only [KT,Rows.uptoBulkAll];omega
end
theorem RM {H:Type} {l:List (DataW H)} (h:Rows.uptoSmall H l=true):KT l<=1048576:=by
 have h1:=Ci l;have h2:Rows.uptoBulkAll l<=1048576:=AK h;omega
abbrev QF (n:Int):Prop:= -9223372036854775808<=n/\n<=9223372036854775807
def eI (n:Int):PV:= .int .i64 n
def eB (b:Bool):PV:= .bool b
def eS (s:List UInt8):PV:= .str s
def eP (p:Int×Int):PV:= .agg [.int .i64 p.1,.int .i64 p.2]
@[go_sem] theorem Zqx (n:Int):eI n= .int .i64 n:=Zm rfl rfl
@[go_sem] theorem Zqv (b:Bool):eB b= .bool b:=Zm rfl rfl
@[go_sem] theorem ZqB (s:List UInt8):eS s= .str s:=Zm rfl rfl
@[go_sem] theorem Zqz (p:Int×Int):eP p= .agg [.int .i64 p.1,.int .i64 p.2]:=Zm rfl rfl
@[go_sem] theorem ZoJ (l:List Int):K5 1 (l.map eI)=true:=QV fun _=>rfl
@[go_sem] theorem Zl5 (l:List Bool):B6 1 (l.map eB)=true:=B7 (f:=eB) (S:=1) (fun _=>rfl) l
@[go_sem] theorem ZoH (l:List Bool):K5 1 (l.map eB)=true:=QV fun _=>rfl
theorem Ns {B xs} (h: ∀y∈xs,FitV Tryz.prog B 3 y): ∃l:List Int,xs=l.map eI/\ ∀n∈l,QF n :=
 Uj (f:=eI) fun y hy=>by
  obtain ⟨n,rfl,w⟩:=SD Tryz.underlying3 (h y hy);exact ⟨n,rfl,XK w⟩
theorem jW {B xs} (h: ∀y∈xs,FitV Tryz.prog B 9 y): ∃l:List (List UInt8),xs=l.map eS/\ ∀s∈l,s.length<=B :=
 Uj (f:=eS) fun y hy=>by
  obtain ⟨s,rfl,w,_⟩:=tC Tryz.underlying9 (h y hy);exact ⟨s,rfl,w⟩
theorem Zdz {α:Type} {l:List α} (h:l.length=2): ∃a0 a1,l= [a0,a1]:=by
 match l,h with | [a0,a1],_=>simp
theorem Zkk {α:Type} {l:List α} (h:l.length=6): ∃a0 a1 a2 a3 a4 a5,l= [a0,a1,a2,a3,a4,a5]:=by
 match l,h with | [a0,a1,a2,a3,a4,a5],_=>simp
theorem Zki {α:Type} {l:List α} (h:l.length=14): ∃a0 a1 a2 a3 a4 a5 a6 a7 a8 a9 a10 a11 a12 a13,l= [a0,a1,a2,a3,a4,a5,a6,a7,a8,a9,a10,a11,a12,a13]:=by
 match l,h with | [a0,a1,a2,a3,a4,a5,a6,a7,a8,a9,a10,a11,a12,a13],_=>simp
theorem Zov {α:Type} {l:List α} (h:l.length=4): ∃a0 a1 a2 a3,l= [a0,a1,a2,a3]:=by
 match l,h with | [a0,a1,a2,a3],_=>simp
theorem Zkj {α:Type} {l:List α} (h:l.length=16): ∃a0 a1 a2 a3 a4 a5 a6 a7 a8 a9 a10 a11 a12 a13 a14 a15,l= [a0,a1,a2,a3,a4,a5,a6,a7,a8,a9,a10,a11,a12,a13,a14,a15]:=by
 match l,h with | [a0,a1,a2,a3,a4,a5,a6,a7,a8,a9,a10,a11,a12,a13,a14,a15],_=>grind
structure Pt where
 t:Int
 a:Int
 deriving Inhabited
def cPt (x:Pt):List PV:= [.int .i64 x.t,.int .i64 x.a]
def HO (x:Pt):PV:= .agg [.int .i64 x.t,.int .i64 x.a]
@[go_sem] theorem Zn4 (x:Pt):HO x= .agg [.int .i64 x.t,.int .i64 x.a]:=Zm rfl rfl
def Pt.wf (B:Nat) (x:Pt):Prop:=QF x.t/\QF x.a
theorem tE {B m cs} (h:WI Tryz.prog B m 139 cs): ∃x:Pt,cs=cPt x/\x.wf B:=by
 obtain ⟨h1,m',h2⟩:=Us nM Zat h;obtain ⟨a0,a1,rfl⟩:=Zdz h1;obtain ⟨n0,e0,w0⟩:=Z4 Tryz.underlying3 (h2 (0,3) Zb);obtain ⟨n1,e1,w1⟩:=Z4 Tryz.underlying3 (h2 (1,3) Zb);simp [aO] at e0 e1;subst e0;subst e1;exact ⟨⟨n0,n1⟩,rfl,XK w0,XK w1⟩
theorem jV {B v} (h:FitV Tryz.prog B 139 v): ∃x:Pt,v=HO x/\x.wf B:=by
 obtain ⟨k,cs,h,e⟩:=h.out;obtain ⟨x,rfl,hw⟩:=tE h;exact ⟨x,e.trans (by rw [Kp,if_pos (Uy nM)];rfl),hw⟩
structure Arc where
 src:Int
 dst:Int
 prof:Int
 miles:Int
 travel_c:Bool
 travel:List (Pt)
 slow_c:Bool
 slow:List (Pt)
 deriving Inhabited
def Zn1 (x:Arc):List PV:= [.int .i64 x.src,.int .i64 x.dst,.int .i64 x.prof,.int .i64 x.miles,.list x.travel_c (x.travel.map HO),.list x.slow_c (x.slow.map HO)]
def V1 (x:Arc):PV:= .agg [.int .i64 x.src,.int .i64 x.dst,.int .i64 x.prof,.int .i64 x.miles,.list x.travel_c (x.travel.map HO),.list x.slow_c (x.slow.map HO)]
@[go_sem] theorem Zme (x:Arc):V1 x= .agg [.int .i64 x.src,.int .i64 x.dst,.int .i64 x.prof,.int .i64 x.miles,.list x.travel_c (x.travel.map HO),.list x.slow_c (x.slow.map HO)]:=Zm rfl rfl
def Arc.wf (B:Nat) (x:Arc):Prop:=QF x.src/\QF x.dst/\QF x.prof/\QF x.miles/\x.travel.length<=B/\(∀y∈x.travel,Pt.wf B y)/\x.slow.length<=B/\(∀y∈x.slow,Pt.wf B y)
theorem jZ {B m cs} (h:WI Tryz.prog B m 101 cs): ∃x:Arc,cs=Zn1 x/\x.wf B:=by
 obtain ⟨h1,m',h2⟩:=Us nL Zas h;obtain ⟨a0,a1,a2,a3,a4,a5,rfl⟩:=Zkk h1;obtain ⟨n0,e0,w0⟩:=Z4 Tryz.underlying3 (h2 (0,3) Zb);obtain ⟨n1,e1,w1⟩:=Z4 Tryz.underlying3 (h2 (1,3) Zb);obtain ⟨n2,e2,w2⟩:=Z4 Tryz.underlying3 (h2 (2,3) Zb);obtain ⟨n3,e3,w3⟩:=Z4 Tryz.underlying3 (h2 (3,3) Zb);obtain ⟨y4,e4,w4,_,z4⟩:=YQ Tryz.underlying99 (h2 (4,99) Zb);obtain ⟨n4,rfl,u4⟩:=Uj (f:=HO) fun y hy=>jV (z4 y hy);obtain ⟨y5,e5,w5,_,z5⟩:=YQ Tryz.underlying99 (h2 (5,99) Zb)
 obtain ⟨n5,rfl,u5⟩:=Uj (f:=HO) fun y hy=>jV (z5 y hy);simp [ZiG,aO] at e0 e1 e2 e3 e4 e5;subst e0;subst e1;subst e2;subst e3;subst e4;subst e5;exact ⟨⟨n0,n1,n2,n3,false,n4,false,n5⟩,rfl,XK w0,XK w1,XK w2,XK w3,by grind,u4,by grind,u5⟩
theorem sZ {B v} (h:FitV Tryz.prog B 101 v): ∃x:Arc,v=V1 x/\x.wf B:=by
 obtain ⟨k,cs,h,e⟩:=h.out;obtain ⟨x,rfl,hw⟩:=jZ h;exact ⟨x,e.trans (by rw [Kp,if_pos (Uy nL)];rfl),hw⟩
structure Net where
 places_c:Bool
 places:List (List UInt8)
 arcs_c:Bool
 arcs:List (Arc)
 deriving Inhabited
def Ziv (x:Net):List PV:= [.list x.places_c (x.places.map eS),.list x.arcs_c (x.arcs.map V1)]
def Cj (x:Net):PV:= .agg [.list x.places_c (x.places.map eS),.list x.arcs_c (x.arcs.map V1)]
@[go_sem] theorem Zmj (x:Net):Cj x= .agg [.list x.places_c (x.places.map eS),.list x.arcs_c (x.arcs.map V1)]:=Zm rfl rfl
def Net.wf (B:Nat) (x:Net):Prop:=x.places.length<=B/\(∀s∈x.places,s.length<=B)/\x.arcs.length<=B/\(∀y∈x.arcs,Arc.wf B y)
theorem kA {B m cs} (h:WI Tryz.prog B m 25 cs): ∃x:Net,cs=Ziv x/\x.wf B:=by
 obtain ⟨h1,m',h2⟩:=Us ZkG xP h;obtain ⟨a0,a1,rfl⟩:=Zdz h1;obtain ⟨y0,e0,w0,_,z0⟩:=YQ Tryz.underlying22 (h2 (0,22) Zb);obtain ⟨n0,rfl,u0⟩:=jW z0;obtain ⟨y1,e1,w1,_,z1⟩:=YQ Tryz.underlying23 (h2 (1,23) Zb);obtain ⟨n1,rfl,u1⟩:=Uj (f:=V1) fun y hy=>sZ (z1 y hy);simp [Zix,Ziw] at e0 e1;subst e0;subst e1;exact ⟨⟨false,n0,false,n1⟩,rfl,by grind,u0,by grind,u1⟩
structure Typ where
 name:List UInt8
 count:Int
 src:Int
 dst:Int
 cap_c:Bool
 cap:List (Int)
 skills:Int
 prof:Int
 opn:Int
 cls:Int
 drive:Int
 rest:Int
 fixed:Int
 perMile:Int
 perTick:Int
 deriving Inhabited
def KP (x:Typ):List PV:= [.str x.name,.int .i64 x.count,.int .i64 x.src,.int .i64 x.dst,.list x.cap_c (x.cap.map eI),.int .i64 x.skills,.int .i64 x.prof,.int .i64 x.opn,.int .i64 x.cls,.int .i64 x.drive,.int .i64 x.rest,.int .i64 x.fixed,.int .i64 x.perMile,.int .i64 x.perTick]
def X7 (x:Typ):PV:= .agg [.str x.name,.int .i64 x.count,.int .i64 x.src,.int .i64 x.dst,.list x.cap_c (x.cap.map eI),.int .i64 x.skills,.int .i64 x.prof,.int .i64 x.opn,.int .i64 x.cls,.int .i64 x.drive,.int .i64 x.rest,.int .i64 x.fixed,.int .i64 x.perMile,.int .i64 x.perTick]
@[go_sem] theorem Zms (x:Typ):X7 x= .agg [.str x.name,.int .i64 x.count,.int .i64 x.src,.int .i64 x.dst,.list x.cap_c (x.cap.map eI),.int .i64 x.skills,.int .i64 x.prof,.int .i64 x.opn,.int .i64 x.cls,.int .i64 x.drive,.int .i64 x.rest,.int .i64 x.fixed,.int .i64 x.perMile,.int .i64 x.perTick]:=Zm rfl rfl
@[go_sem] theorem ZkA (l:List Typ):K5 14 (l.map X7)=true:=QV fun _=>rfl
def Typ.wf (B:Nat) (x:Typ):Prop:=x.name.length<=B/\QF x.count/\QF x.src/\QF x.dst/\x.cap.length<=B/\(∀n∈x.cap,QF n)/\QF x.skills/\QF x.prof/\QF x.opn/\QF x.cls/\QF x.drive/\QF x.rest/\QF x.fixed/\QF x.perMile/\QF x.perTick
theorem kC {B m cs} (h:WI Tryz.prog B m 63 cs): ∃x:Typ,cs=KP x/\x.wf B:=by
 obtain ⟨h1,m',h2⟩:=Us yI ZiC h;obtain ⟨a0,a1,a2,a3,a4,a5,a6,a7,a8,a9,a10,a11,a12,a13,rfl⟩:=Zki h1;obtain ⟨n0,e0,w0,_⟩:=F3 Tryz.underlying9 (h2 (0,9) Zb);obtain ⟨n1,e1,w1⟩:=Z4 Tryz.underlying3 (h2 (1,3) Zb);obtain ⟨n2,e2,w2⟩:=Z4 Tryz.underlying3 (h2 (2,3) Zb);obtain ⟨n3,e3,w3⟩:=Z4 Tryz.underlying3 (h2 (3,3) Zb);obtain ⟨y4,e4,w4,_,z4⟩:=YQ Tryz.underlying55 (h2 (4,55) Zb);obtain ⟨n4,rfl,u4⟩:=Ns z4;obtain ⟨n5,e5,w5⟩:=Z4 Tryz.underlying3 (h2 (5,3) Zb)
 obtain ⟨n6,e6,w6⟩:=Z4 Tryz.underlying3 (h2 (6,3) Zb);obtain ⟨n7,e7,w7⟩:=Z4 Tryz.underlying3 (h2 (7,3) Zb);obtain ⟨n8,e8,w8⟩:=Z4 Tryz.underlying3 (h2 (8,3) Zb);obtain ⟨n9,e9,w9⟩:=Z4 Tryz.underlying3 (h2 (9,3) Zb);obtain ⟨n10,e10,w10⟩:=Z4 Tryz.underlying3 (h2 (10,3) Zb);obtain ⟨n11,e11,w11⟩:=Z4 Tryz.underlying3 (h2 (11,3) Zb);obtain ⟨n12,e12,w12⟩:=Z4 Tryz.underlying3 (h2 (12,3) Zb);obtain ⟨n13,e13,w13⟩:=Z4 Tryz.underlying3 (h2 (13,3) Zb);simp [xQ,aO,ZiF] at e0 e1 e2 e3 e4 e5 e6 e7 e8 e9 e10 e11 e12 e13
 subst e0;subst e1;subst e2;subst e3;subst e4;subst e5;subst e6;subst e7;subst e8;subst e9;subst e10;subst e11;subst e12;subst e13;exact ⟨⟨n0,n1,n2,n3,false,n4,n5,n6,n7,n8,n9,n10,n11,n12,n13⟩,rfl,w0,XK w1,XK w2,XK w3,by grind,u4,XK w5,XK w6,XK w7,XK w8,XK w9,XK w10,XK w11,XK w12,XK w13⟩
theorem tB {B v} (h:FitV Tryz.prog B 63 v): ∃x:Typ,v=X7 x/\x.wf B:=by
 obtain ⟨k,cs,h,e⟩:=h.out;obtain ⟨x,rfl,hw⟩:=kC h;exact ⟨x,e.trans (by rw [Kp,if_pos (Uy yI)];rfl),hw⟩
structure Stp where
 place:Int
 opn:Int
 cls:Int
 serv:Int
 deriving Inhabited
def Bg (x:Stp):List PV:= [.int .i64 x.place,.int .i64 x.opn,.int .i64 x.cls,.int .i64 x.serv]
def FV (x:Stp):PV:= .agg [.int .i64 x.place,.int .i64 x.opn,.int .i64 x.cls,.int .i64 x.serv]
@[go_sem] theorem Zmp (x:Stp):FV x= .agg [.int .i64 x.place,.int .i64 x.opn,.int .i64 x.cls,.int .i64 x.serv]:=Zm rfl rfl
def Stp.wf (B:Nat) (x:Stp):Prop:=QF x.place/\QF x.opn/\QF x.cls/\QF x.serv
theorem Nt {B m cs} (h:WI Tryz.prog B m 65 cs): ∃x:Stp,cs=Bg x/\x.wf B:=by
 obtain ⟨h1,m',h2⟩:=Us ZkH xR h;obtain ⟨a0,a1,a2,a3,rfl⟩:=Zov h1;obtain ⟨n0,e0,w0⟩:=Z4 Tryz.underlying3 (h2 (0,3) Zb);obtain ⟨n1,e1,w1⟩:=Z4 Tryz.underlying3 (h2 (1,3) Zb);obtain ⟨n2,e2,w2⟩:=Z4 Tryz.underlying3 (h2 (2,3) Zb);obtain ⟨n3,e3,w3⟩:=Z4 Tryz.underlying3 (h2 (3,3) Zb);simp [aO] at e0 e1 e2 e3;subst e0;subst e1;subst e2;subst e3;exact ⟨⟨n0,n1,n2,n3⟩,rfl,XK w0,XK w1,XK w2,XK w3⟩
theorem xS {B v} (h:FitV Tryz.prog B 89 v): ∃x:Int×Int,v=eP x/\QF x.1/\QF x.2:=by
 obtain ⟨k,cs,h,e⟩:=h.out;obtain ⟨h1,m',h2⟩:=Us yK ZiE h;obtain ⟨a,b,rfl⟩:=Zdz h1;obtain ⟨n0,e0,w0⟩:=Z4 Tryz.underlying3 (h2 (0,3) Zb);obtain ⟨n1,e1,w1⟩:=Z4 Tryz.underlying3 (h2 (1,3) Zb);simp [aO] at e0 e1;subst e0;subst e1;exact ⟨(n0,n1),e.trans (by rw [Kp,if_pos (Uy yK)];rfl),XK w0,XK w1⟩
structure Ord where
 name:List UInt8
 load_c:Bool
 load:List (Int)
 pick:Stp
 drp:Stp
 skills:Int
 penalty:Int
 split:Int
 last:Int
 now:Int
 off:Bool
 deriving Inhabited
def Zn2 (x:Ord):List PV:= [.str x.name,.list x.load_c (x.load.map eI),.int .i64 x.pick.place,.int .i64 x.pick.opn,.int .i64 x.pick.cls,.int .i64 x.pick.serv,.int .i64 x.drp.place,.int .i64 x.drp.opn,.int .i64 x.drp.cls,.int .i64 x.drp.serv,.int .i64 x.skills,.int .i64 x.penalty,.int .i64 x.split,.int .i64 x.last,.int .i64 x.now,.bool x.off]
def eOrd (x:Ord):PV:= .agg [.str x.name,.list x.load_c (x.load.map eI),.int .i64 x.pick.place,.int .i64 x.pick.opn,.int .i64 x.pick.cls,.int .i64 x.pick.serv,.int .i64 x.drp.place,.int .i64 x.drp.opn,.int .i64 x.drp.cls,.int .i64 x.drp.serv,.int .i64 x.skills,.int .i64 x.penalty,.int .i64 x.split,.int .i64 x.last,.int .i64 x.now,.bool x.off]
@[go_sem] theorem Sx (x:Ord):eOrd x= .agg [.str x.name,.list x.load_c (x.load.map eI),.int .i64 x.pick.place,.int .i64 x.pick.opn,.int .i64 x.pick.cls,.int .i64 x.pick.serv,.int .i64 x.drp.place,.int .i64 x.drp.opn,.int .i64 x.drp.cls,.int .i64 x.drp.serv,.int .i64 x.skills,.int .i64 x.penalty,.int .i64 x.split,.int .i64 x.last,.int .i64 x.now,.bool x.off]:=Zm rfl rfl
@[go_sem] theorem Zky (l:List Ord):K5 16 (l.map eOrd)=true:=QV fun _=>rfl
def Ord.wf (B:Nat) (x:Ord):Prop:=x.name.length<=B/\x.load.length<=B/\(∀n∈x.load,QF n)/\Stp.wf B x.pick/\Stp.wf B x.drp/\QF x.skills/\QF x.penalty/\QF x.split/\QF x.last/\QF x.now
theorem kB {B m cs} (h:WI Tryz.prog B m 67 cs): ∃x:Ord,cs=Zn2 x/\x.wf B:=by
 obtain ⟨h1,m',h2⟩:=Us yJ ZiD h;obtain ⟨a0,a1,a2,a3,a4,a5,a6,a7,a8,a9,a10,a11,a12,a13,a14,a15,rfl⟩:=Zkj h1;obtain ⟨n0,e0,w0,_⟩:=F3 Tryz.underlying9 (h2 (0,9) Zb);obtain ⟨y1,e1,w1,_,z1⟩:=YQ Tryz.underlying55 (h2 (1,55) Zb);obtain ⟨n1,rfl,u1⟩:=Ns z1;obtain ⟨n2,e2,w2⟩:=Nt (h2 (2,65) Zb);obtain ⟨n3,e3,w3⟩:=Nt (h2 (6,65) Zb);obtain ⟨n4,e4,w4⟩:=Z4 Tryz.underlying3 (h2 (10,3) Zb);obtain ⟨n5,e5,w5⟩:=Z4 Tryz.underlying3 (h2 (11,3) Zb);obtain ⟨n6,e6,w6⟩:=Z4 Tryz.underlying3 (h2 (12,3) Zb)
 obtain ⟨n7,e7,w7⟩:=Z4 Tryz.underlying3 (h2 (13,3) Zb);obtain ⟨n8,e8,w8⟩:=Z4 Tryz.underlying3 (h2 (14,3) Zb);obtain ⟨n9,e9⟩:=bF Tryz.underlying4 (h2 (15,4) Zb);simp [xQ,xR,Zn3,aO,ZiF,Bg,Bg] at e0 e1 e2 e3 e4 e5 e6 e7 e8 e9;subst e0;subst e1;obtain ⟨rfl,rfl,rfl,rfl⟩:=e2;obtain ⟨rfl,rfl,rfl,rfl⟩:=e3;subst e4;subst e5;subst e6;subst e7;subst e8;subst e9;exact ⟨⟨n0,false,n1,n2,n3,n4,n5,n6,n7,n8,n9⟩,rfl,w0,by grind,u1,w2,w3,XK w4,XK w5,XK w6,XK w7,XK w8⟩
theorem tA {B v} (h:FitV Tryz.prog B 67 v): ∃x:Ord,v=eOrd x/\x.wf B:=by
 obtain ⟨k,cs,h,e⟩:=h.out;obtain ⟨x,rfl,hw⟩:=kB h;exact ⟨x,e.trans (by rw [Kp,if_pos (Uy yJ)];rfl),hw⟩
structure Inst where
 net:Net
 types_c:Bool
 types:List (Typ)
 orders_c:Bool
 orders:List (Ord)
 apart_c:Bool
 apart:List (Int×Int)
 before_c:Bool
 before:List (Int×Int)
 deriving Inhabited
def Ziu (x:Inst):List PV:= [.list x.net.places_c (x.net.places.map eS),.list x.net.arcs_c (x.net.arcs.map V1),.list x.types_c (x.types.map X7),.list x.orders_c (x.orders.map eOrd),.list x.apart_c (x.apart.map eP),.list x.before_c (x.before.map eP)]
def Zs (x:Inst):PV:= .agg [.list x.net.places_c (x.net.places.map eS),.list x.net.arcs_c (x.net.arcs.map V1),.list x.types_c (x.types.map X7),.list x.orders_c (x.orders.map eOrd),.list x.apart_c (x.apart.map eP),.list x.before_c (x.before.map eP)]
@[go_sem] theorem ZiI (x:Inst):Zs x= .agg [.list x.net.places_c (x.net.places.map eS),.list x.net.arcs_c (x.net.arcs.map V1),.list x.types_c (x.types.map X7),.list x.orders_c (x.orders.map eOrd),.list x.apart_c (x.apart.map eP),.list x.before_c (x.before.map eP)]:=Zm rfl rfl
def Inst.wf (B:Nat) (x:Inst):Prop:=Net.wf B x.net/\x.types.length<=B/\(∀y∈x.types,Typ.wf B y)/\x.orders.length<=B/\(∀y∈x.orders,Ord.wf B y)/\x.apart.length<=B/\(∀p∈x.apart,QF p.1/\QF p.2)/\x.before.length<=B/\(∀p∈x.before,QF p.1/\QF p.2)
theorem bE {B m cs} (h:WI Tryz.prog B m 30 cs): ∃x:Inst,cs=Ziu x/\x.wf B:=by
 obtain ⟨h1,m',h2⟩:=Us yH ZiB h;obtain ⟨a0,a1,a2,a3,a4,a5,rfl⟩:=Zkk h1;obtain ⟨n0,e0,w0⟩:=kA (h2 (0,25) Zb);obtain ⟨y1,e1,w1,_,z1⟩:=YQ Tryz.underlying26 (h2 (2,26) Zb);obtain ⟨n1,rfl,u1⟩:=Uj (f:=X7) fun y hy=>tB (z1 y hy);obtain ⟨y2,e2,w2,_,z2⟩:=YQ Tryz.underlying27 (h2 (3,27) Zb);obtain ⟨n2,rfl,u2⟩:=Uj (f:=eOrd) fun y hy=>tA (z2 y hy);obtain ⟨y3,e3,w3,_,z3⟩:=YQ Tryz.underlying28 (h2 (4,28) Zb);obtain ⟨n3,rfl,u3⟩:=Uj (f:=eP) fun y hy=>xS (z3 y hy)
 obtain ⟨y4,e4,w4,_,z4⟩:=YQ Tryz.underlying28 (h2 (5,28) Zb);obtain ⟨n4,rfl,u4⟩:=Uj (f:=eP) fun y hy=>xS (z4 y hy);simp [ZiA,Ziz,Ziy,xP,Ziv] at e0 e1 e2 e3 e4;obtain ⟨rfl,rfl⟩:=e0;subst e1;subst e2;subst e3;subst e4;exact ⟨⟨n0,false,n1,false,n2,false,n3,false,n4⟩,rfl,w0,by grind,u1,by grind,u2,by grind,u3,by grind,u4⟩
theorem jU {B v} (h:FitV Tryz.prog B 30 v): ∃x:Inst,v=Zs x/\x.wf B:=by
 obtain ⟨k,cs,h,e⟩:=h.out;obtain ⟨x,rfl,hw⟩:=bE h;exact ⟨x,e.trans (by rw [Kp,if_pos (Uy yH)];rfl),hw⟩
structure Vis where
 order:Int
 drp:Bool
 deriving Inhabited
def Xa (x:Vis):PV:= .agg [.int .i64 x.order,.bool x.drp]
@[go_sem] theorem Sy (x:Vis):Xa x= .agg [.int .i64 x.order,.bool x.drp]:=Zm rfl rfl
@[go_sem] theorem Ze1 (l:List Vis):B6 2 (l.map Xa)=true:=B7 (f:=Xa) (S:=2) (fun _=>rfl) l
@[go_sem] theorem ZkB (l:List Vis):K5 2 (l.map Xa)=true:=QV fun _=>rfl
structure Rte where
 typ:Int
 start:Int
 rests_c:Bool
 rests:List (Bool)
 visits_c:Bool
 visits:List (Vis)
 deriving Inhabited
def WM (x:Rte):PV:= .agg [.int .i64 x.typ,.int .i64 x.start,.list x.rests_c (x.rests.map eB),.list x.visits_c (x.visits.map Xa)]
@[go_sem] theorem Zml (x:Rte):WM x= .agg [.int .i64 x.typ,.int .i64 x.start,.list x.rests_c (x.rests.map eB),.list x.visits_c (x.visits.map Xa)]:=Zm rfl rfl
structure Tim where
 arr:Int
 beg:Int
 dep:Int
 rest:Bool
 deriving Inhabited
def eTim (x:Tim):PV:= .agg [.int .i64 x.arr,.int .i64 x.beg,.int .i64 x.dep,.bool x.rest]
@[go_sem] theorem Zmq (x:Tim):eTim x= .agg [.int .i64 x.arr,.int .i64 x.beg,.int .i64 x.dep,.bool x.rest]:=Zm rfl rfl
@[go_sem] theorem Zkz (l:List Tim):K5 4 (l.map eTim)=true:=QV fun _=>rfl
structure She where
 rest:Bool
 dep:Int
 times_c:Bool
 times:List (Tim)
 fin:Int
 miles:Int
 deriving Inhabited
def FT (x:She):PV:= .agg [.bool x.rest,.int .i64 x.dep,.list x.times_c (x.times.map eTim),.int .i64 x.fin,.int .i64 x.miles]
@[go_sem] theorem Zmn (x:She):FT x= .agg [.bool x.rest,.int .i64 x.dep,.list x.times_c (x.times.map eTim),.int .i64 x.fin,.int .i64 x.miles]:=Zm rfl rfl
structure Sco where
 cost:Int
 moved:Int
 other:Int
 work:Int
 deriving Inhabited
def EG (x:Sco):PV:= .agg [.int .i64 x.cost,.int .i64 x.moved,.int .i64 x.other,.int .i64 x.work]
@[go_sem] theorem Zmm (x:Sco):EG x= .agg [.int .i64 x.cost,.int .i64 x.moved,.int .i64 x.other,.int .i64 x.work]:=Zm rfl rfl
structure Pln where
 routes_c:Bool
 routes:List (Rte)
 unserved_c:Bool
 unserved:List (Int)
 deriving Inhabited
def J3 (x:Pln):PV:= .agg [.list x.routes_c (x.routes.map WM),.list x.unserved_c (x.unserved.map eI)]
@[go_sem] theorem Zmk (x:Pln):J3 x= .agg [.list x.routes_c (x.routes.map WM),.list x.unserved_c (x.unserved.map eI)]:=Zm rfl rfl
structure Col where
 typ:Int
 set:Int
 price:Int
 route:Rte
 deriving Inhabited
def Hm (x:Col):List PV:= [.int .i64 x.typ,.int .i64 x.set,.int .i64 x.price,.int .i64 x.route.typ,.int .i64 x.route.start,.list x.route.rests_c (x.route.rests.map eB),.list x.route.visits_c (x.route.visits.map Xa)]
def Xv (x:Col):PV:= .agg [.int .i64 x.typ,.int .i64 x.set,.int .i64 x.price,.int .i64 x.route.typ,.int .i64 x.route.start,.list x.route.rests_c (x.route.rests.map eB),.list x.route.visits_c (x.route.visits.map Xa)]
@[go_sem] theorem Zmg (x:Col):Xv x= .agg [.int .i64 x.typ,.int .i64 x.set,.int .i64 x.price,.int .i64 x.route.typ,.int .i64 x.route.start,.list x.route.rests_c (x.route.rests.map eB),.list x.route.visits_c (x.route.visits.map Xa)]:=Zm rfl rfl
structure Itm where
 kind:Int
 a:Int
 deriving Inhabited
def Xn (x:Itm):PV:= .agg [.int .i64 x.kind,.int .i64 x.a]
@[go_sem] theorem Zmh (x:Itm):Xn x= .agg [.int .i64 x.kind,.int .i64 x.a]:=Zm rfl rfl
@[go_sem] theorem ZeZ (l:List Itm):B6 2 (l.map Xn)=true:=B7 (f:=Xn) (S:=2) (fun _=>rfl) l
@[go_sem] theorem Zkx (l:List Itm):K5 2 (l.map Xn)=true:=QV fun _=>rfl
theorem own : ownKnob Tryz.prog.godebug=none:=Zg
theorem tQ : laidOutB Tryz.prog=true:=Zg
def zeroI : Inst:=⟨⟨true,[],true,[]⟩,true,[],true,[],true,[],true,[]⟩
abbrev Flt := Int×List UInt8
def eF (f:Flt):PV:= .agg [.int .i64 f.1,.str f.2]
@[go_sem] theorem Zqw (f:Flt):eF f= .agg [.int .i64 f.1,.str f.2]:=Zm rfl rfl
@[go_sem] theorem ZoI (l:List Flt):K5 2 (l.map eF)=true:=QV fun _=>rfl
def dec (n:Nat):List UInt8:=if h:n<10 then [UInt8.ofNat (48+n)] else dec (n / 10)++ [UInt8.ofNat (48+n%10)]
termination_by n
decreasing_by omega
theorem Ss : ∀(k n:Nat),n<k->(dec n).length<=n+1:=by
 intro k
 induction k with
 | zero=>omega
 | succ k ih =>
  grind [dec]
theorem BC : ∀(d n:Nat),n<10^(d+1)->(dec n).length<=d+1:=by
 intro d
 induction d with
 | zero=>simp_all [dec]
 | succ d ih =>
  grind [dec]
def Bh (n:Int):List UInt8:=if n<0 then 45::dec n.natAbs else dec n.natAbs
theorem Jw (n:Int) (h:QF n):(Bh n).length<=20:=by
 have h1:n.natAbs<10^(18+1):=Za
 have:=BC 18 n.natAbs h1
 grind [Bh]
structure FR {α:Type} (p:α->Prop) (C:Prop) (b:Nat) (l:List α):Prop where
 len:l.length<=b
 emp:l= []↔C
 all: ∀x∈l,p x
theorem FR.nil {α:Type} {p:α->Prop} {C:Prop} {b:Nat} (h:C):FR p C b []:=⟨Zb,by simp [h],Zb⟩
theorem FR.no {α:Type} {p:α->Prop} {C c:Prop} {b:Nat} {l:List α} (h:FR p C b l) (hc:c):FR p (C/\c) (b+1) l:=⟨by have:=h.len;omega,by rw [h.emp];simp [hc],h.all⟩
theorem FR.yes {α:Type} {p:α->Prop} {C c:Prop} {b:Nat} {l:List α} {x:α} (h:FR p C b l) (hc: ¬c) (hx:p x):FR p (C/\c) (b+1) (l++ [x]) :=
 ⟨by have:=h.len;simp;omega,by simp [hc],fun y hy=>by
  rcases Xe.1 hy with hy | hy
  ·exact h.all y hy
  grind⟩
theorem FR.app {α:Type} {p:α->Prop} {C D:Prop} {b d:Nat} {l m:List α} (h:FR p C b l) (k:FR p D d m):FR p (C/\D) (b+d) (l++m) :=
 ⟨by have:=h.len;have:=k.len;simp;omega,by rw [Ub,h.emp,k.emp],fun y hy=>by
  rcases Xe.1 hy with hy | hy
  ·exact h.all y hy
  ·exact k.all y hy⟩
theorem FR.to {α:Type} {p:α->Prop} {C D:Prop} {b d:Nat} {l:List α} (h:FR p C b l) (hb:b<=d) (hc:C↔D):FR p D d l:=⟨Kh h.len hb,h.emp.trans hc,h.all⟩
theorem Zr {p:Nat->Prop} {k:Nat} :(∀j,j<k+1->p j)↔((∀j,j<k->p j)/\p k) :=
 ⟨fun h=>⟨fun j hj=>h j Za,h k Za⟩,fun h j hj=>by
  grind⟩
def J9 (c:UInt8):Bool:=decide (48<=c.toNat/\c.toNat<=57)
def JB (c:UInt8):Bool:=decide (97<=c.toNat/\c.toNat<=122)||decide (65<=c.toNat/\c.toNat<=90)||decide (c.toNat=95)
def nameOk (s:List UInt8):Bool:=decide (1<=s.length)&&decide (s.length<=16)&& !J9 (nth s 0)&&s.all fun c=>JB c||J9 c
def rng (n lo hi:Int):Bool:=decide (lo<=n/\n<=hi)
def Mx (n:Int):Bool:=rng n 0 4096
def oA (l:List Pt) (i:Nat):Prop:=(0<=(nth l i).t/\(nth l i).t<=4096/\(nth l i).t<=(nth l i).a/\(nth l i).a<=(nth l i).t+4096)/\(0<i->(nth l (i-1)).t<(nth l i).t/\(nth l (i-1)).a<=(nth l i).a)
def Vh (l:List Pt):Prop:=(1<=l.length/\l.length<=16)/\ ∀i,i<l.length->oA l i
def Ah (l:List Pt) (i:Nat):Prop:=Mx (nth l i).t=true/\Mx (nth l i).a=true/\(0<i->(nth l (i-1)).t<(nth l i).t)
def MR (n:Net) (i:Nat):Prop :=
 ((((((0<=(nth n.arcs i).src/\(nth n.arcs i).src<n.places.length/\0<=(nth n.arcs i).dst/\(nth n.arcs i).dst<n.places.length) /\
 (0<=(nth n.arcs i).prof/\(nth n.arcs i).prof<=7/\0<=(nth n.arcs i).miles/\(nth n.arcs i).miles<=10000/\(nth n.arcs i).src≠(nth n.arcs i).dst)) /\
 (∀k,k<i-> ¬((nth n.arcs i).src=(nth n.arcs k).src/\(nth n.arcs i).dst=(nth n.arcs k).dst/\(nth n.arcs i).prof=(nth n.arcs k).prof))) /\
 Vh (nth n.arcs i).travel)/\(nth n.arcs i).slow.length<=16)/\ ∀k,k<(nth n.arcs i).slow.length->Ah (nth n.arcs i).slow k)
def Rl (n:Net) (i:Nat):Prop:=nameOk (nth n.places i)=true/\ ∀k,k<i->nth n.places k≠nth n.places i
def K9 (n:Net):Prop:=n.places.length<=24/\ ∀i,i<n.places.length->Rl n i
def netOk (n:Net):Prop:=(K9 n/\n.arcs.length<=1024)/\ ∀i,i<n.arcs.length->MR n i
set_option maxRecDepth 8000
set_option maxHeartbeats 4000000
theorem Sv (c:UInt8):PC 128 [.p (.int .u8 (c.toNat:Nat))] (.bool (J9 c)):=by
 refine Zc Tryz.func128 rfl Zba ?_;simp (disch:=omega) only [Tryz.f128,go_sem,seval];refine gT ?_ ?_<;>intro h<;>simp (disch:=omega) only [Sh.out h,go_sem,seval,↓reduceIte]
 all_goals (simp [J9];first | done | omega | grind)
theorem lU (c:UInt8):PC 129 [.p (.int .u8 (c.toNat:Nat))] (.bool (JB c)):=by
 refine Zc Tryz.func129 rfl Zbb ?_;simp (disch:=omega) only [Tryz.f129,go_sem,seval]
 repeat' (first | (refine gT ?_ ?_<;>intro hq<;>simp (disch:=omega) only [Sh.out hq,go_sem,seval,↓reduceIte]) | (refine gF ?_ ?_<;>intro hq<;>simp (disch:=omega) only [Sh.out hq,go_sem,seval,↓reduceIte]) | (refine QK (fun hq=> ?_) (fun hq=> ?_)<;>(try simp only [Zq,Ya,Z1] at hq)<;>simp (disch:=omega) only [Sh.out hq,go_sem,seval]))
 all_goals (simp [JB];first | done | omega | (rw [Wz];simp;omega))
theorem Rb (s:List UInt8) (hs:s.length<=1048576):PC 95 [.p (.str s)] (.bool (nameOk s)):=by
 refine Zc Tryz.func95 rfl Zka ?_;simp (disch:=omega) only [Tryz.f95,go_sem,seval];refine gF ?_ ?_<;>intro h<;>simp (disch:=omega) only [Sh.out h,go_sem,seval,↓reduceIte]
 ·grind [nameOk]
 ·refine gF ?_ ?_<;>intro h2<;>simp (disch:=omega) only [Sh.out h2,go_sem,seval]
  ·grind [nameOk]
  ·have g1:1<=s.length:=Za
   have g2:s.length<=16:=Za
   refine (Sv (nth s 0)).use (Zd ?_);refine cD ?_ ?_<;>intro h3<;>simp (disch:=omega) only [Sh.out h3,go_sem,seval]
   ·simp [nameOk,h3]
   ·refine Zl [0] (fun k:Nat=> [(3,.p (.int .i64 k))]) (fun _=> []) (fun k=>k<=s.length/\ ∀j,j<k->(JB (nth s j)||J9 (nth s j))=true) (fun k=>s.length-k) 0 Zb (Weak.mk ?_) ?_
    ·simp (disch:=omega) only [go_sem,seval,↓reduceIte]
    ·rintro k ⟨hk,hno⟩;refine Zd ?_
     have hall: ∀j,j<s.length->(JB (nth s j)||J9 (nth s j))=false->nameOk s=false:=fun j hj e=>by
      grind [Zi,nameOk]
     refine cD ?_ ?_<;>intro h4<;>simp (disch:=omega) only [Sh.out h4,go_sem,seval,↓reduceIte]
     ·have hk2:k<s.length:=Za
      refine (lU (nth s k)).use (Zd ?_);refine gT ?_ ?_<;>intro h5<;>simp (disch:=omega) only [Sh.out h5,go_sem,seval,↓reduceIte]
      ·refine (Sv (nth s k)).use (Zd ?_);refine cD ?_ ?_<;>intro h6<;>simp (disch:=omega) only [Sh.out h6,go_sem,seval,↓reduceIte]
       ·grind
       ·simp only [XR] at h6;exact ⟨k+1,⟨Za,Zr.2 ⟨hno,by simp [h6]⟩⟩,Za,wk⟩
      ·simp only [XR] at h5;exact ⟨k+1,⟨Za,Zr.2 ⟨hno,by simp [h5]⟩⟩,Za,wk⟩
     ·have:s.all (fun c=>JB c||J9 c)=true:=by
       rw [ZD];intro c hc;obtain ⟨j,hj,rfl⟩:=ZU.1 hc
       grind [Zi]
      grind [nameOk]
theorem Aw (n:Int) (hn:QF n):PC 74 [.p (.int .i64 n)] (.str (Bh n)):=by
 refine Zc Tryz.func74 rfl ZjS ?_;simp (disch:=omega) only [Tryz.f74,go_sem,seval]
 have h19:n.natAbs<10^(18+1):=Za
 have hdl:=BC 18 n.natAbs h19
 refine Z3 [7] [0] (fun q:Int×List UInt8×Bool=> [(3,.p (.str q.2.1)),(4,.p (.int .i64 q.1)),(5,.p (.bool q.2.2))]) (fun _=> [])
  (fun q=>QF q.1/\(q.2.2=true->dec q.1.natAbs++q.2.1=dec n.natAbs)/\(q.2.2=false->q.2.1=dec n.natAbs)) (fun q=>if q.2.2 then q.1.natAbs+1 else 0) (n,[],true) (by simp;omega) (Weak.mk ?_) ?_
 ·simp (disch:=omega) only [go_sem,seval,↓reduceIte]
 ·rintro ⟨m,s,again⟩ ⟨hm,h1,h2⟩;simp only at hm h1 h2;refine Zd ?_
  cases again with
  | false =>
   refine Zd ?_;have h2:=h2 rfl
   have hl2:([45]:List UInt8).length+(dec n.natAbs).length<=9223372036854775807:=by simp;omega
   refine cD ?_ ?_<;>intro h3<;>simp (disch:=omega) only [Sh.out h3,go_sem,seval]
   ·simp (disch:=omega) only [Bh,h2,h3,oQ hl2,go_sem,seval,↓reduceIte]
   ·simp (disch:=omega) only [Bh,h2,h3,go_sem,seval,↓reduceIte]
  | true =>
   have h1:=h1 rfl
   have hls:(dec m.natAbs).length+s.length=(dec n.natAbs).length:=by grind
   refine Zd ?_
   have e1:(m.tmod 10).natAbs=m.natAbs%10:=Zb
   have e2:(m.tdiv 10).natAbs=m.natAbs / 10:=by grind
   have e3:m.tmod 10<10/\ -10<m.tmod 10:=⟨Int.tmod_lt_of_pos _ (by decide),Za⟩;refine ZM [0,3,4] (fun _:Unit=> [(6,.p (.int .i64 ((m.natAbs%10:Nat):Int)))]) (fun _=> []) (fun _=>True) ?_ ?_
   ·refine Zd ?_;refine cD ?_ ?_<;>intro h3<;>simp (disch:=omega) only [Sh.out h3,go_sem,seval,↓reduceIte]
    ·exact ⟨(),Weak.mk (by refine Zd ?_;simp;omega)⟩
    ·exact ⟨(),Weak.mk (by refine Zd ?_;simp;omega)⟩
   ·intro _ _;refine Zh [] _ _ _ _ ?_;simp (disch:=first | omega | (simp only [ZE,ZJ,ZA,ZB,Xd,XG]<;>omega)) only [go_sem,seval,↓reduceIte]
    have e4:(48+((m.natAbs%10:Nat):Int)).toNat=48+m.natAbs%10:=Za
    refine ⟨(m.tdiv 10,UInt8.ofNat (48+m.natAbs%10)::s,decide (m.tdiv 10≠0)),⟨?_,?_,?_⟩,?_,Weak.mk ?_⟩
    ·omega
    ·simp only [Zq];intro hne
     have h10: ¬m.natAbs<10:=Za
     rw [e2,<- h1,dec.eq_def m.natAbs,dif_neg h10];simp
    ·simp only [Ya,Z1];intro hz
     have h10:m.natAbs<10:=Za
     rw [<- h1,dec.eq_def m.natAbs,dif_pos h10,CL h10];simp
    ·grind
    ·simp (disch:=omega) only [e4,go_sem,seval]
def pF (k:Nat) (f:Flt):Prop:=f.2.length<=k
theorem Xj {P:Program} {id:Nat} {l:List Oper} {fr:List V} {H:List AM.Obj} {Q:Exit->List V->List AM.Obj->Prop} {t} (h:hs P (l.map (·.dst)) H (Zw (fun fr'=>Q .normal (LI fr') H) ⟨⟩) l (LI fr)) (hm:P.follows .mixedOrders=true:=by exact mixed) (hB:Vg (List.toArray l) l.length=true:=by kernel_rfl) (hR:Ab (List.toArray l) l.length=true:=by kernel_rfl):AWP P (.region id (Zw (List.toArray l) t) true) fr H Q:=Pp hm hB hR h
theorem iV (l:List Pt) (c:Bool) (hl:l.length<=1048576):ACalls Tryz.prog 96 [.p (.list c (l.map HO))] [] fun x H'=> ∃m:List Flt,FR (pF 20) (Vh l) (2*l.length+1) m/\x= .sl 0 0 m.length m.length/\H'= [.elems 2 (m.map eF)]:=by
 refine ZI [2] Tryz.func96 rfl Zkb ?_;simp (disch:=omega) only [Tryz.f96,go_sem,seval];refine Zp (Weak.ofNil 3 2 (by simp (disch:=omega) only [go_sem,seval]) Zb (Weak.refl _ _ _)) ?_;refine ZM [0] (fun m:List Flt=> [(3,.sl 0 0 m.length m.length)]) (fun m=> [.elems 2 (m.map eF)]) (fun m=>FR (pF 20) (1<=l.length/\l.length<=16) 1 m) ?_ ?_
 ·refine Zd ?_
  repeat' (first | (refine Un (fun hq=> ?_) (fun hq=> ?_)<;>(try simp only [Zq,Ya,Z1] at hq)<;>simp (disch:=omega) only [Sh.out hq,go_sem,seval]) | (refine gF ?_ ?_<;>intro hq<;>simp (disch:=omega) only [Sh.out hq,go_sem,seval,↓reduceIte]) | (refine cD ?_ ?_<;>intro hq<;>simp (disch:=omega) only [Sh.out hq,go_sem,seval,↓reduceIte]))
  ·exact ⟨[(4,[])],⟨Zb,by simp;omega,by simp [pF]⟩,wk⟩
  ·exact ⟨[(4,[])],⟨Zb,by simp;omega,by simp [pF]⟩,wk⟩
  ·exact ⟨[],FR.nil Za,wk⟩
 ·intro m hm;refine Zh [] _ _ _ _ (Zd ?_);refine Z3 [8] [0] (fun q:Nat×List Flt=> [(3,.sl 0 0 q.2.length q.2.length),(4,.p (.int .i64 q.1))]) (fun q=> [.elems 2 (q.2.map eF)]) (fun q=>q.1<=l.length/\FR (pF 20) ((1<=l.length/\l.length<=16)/\ ∀j,j<q.1->oA l j) (2*q.1+1) q.2) (fun q=>l.length-q.1) (0,m) ⟨Zb,hm.to Zb Zb⟩ (Weak.mk ?_) ?_
  ·simp (disch:=omega) only [go_sem,seval,↓reduceIte]
  ·rintro ⟨k,m⟩ ⟨hk,hm⟩;simp only at hk hm;have hml:=hm.len;refine Zd ?_;refine cD ?_ ?_<;>intro h<;>simp (disch:=omega) only [Sh.out h,go_sem,seval,↓reduceIte]
   ·have hk2:k<l.length:=Za
    refine ZM [0,4,5] (fun m:List Flt=> [(3,.sl 0 0 m.length m.length)]) (fun m=> [.elems 2 (m.map eF),.cells [.p (.int .i64 (nth l k).t),.p (.int .i64 (nth l k).a)]])
     (fun m=>FR (pF 20) (((1<=l.length/\l.length<=16)/\ ∀j,j<k->oA l j)/\(0<=(nth l k).t/\(nth l k).t<=4096/\(nth l k).t<=(nth l k).a/\(nth l k).a<=(nth l k).t+4096)) (2*k+1+1) m) ?_ ?_
    ·refine Zd ?_
     have hI:QF (k:Int):=Za
     have hdl:=Jw k hI
     repeat' (first | (refine Un (fun hq=> ?_) (fun hq=> ?_)<;>(try simp only [Zq,Ya,Z1] at hq)<;>simp (disch:=omega) only [Sh.out hq,go_sem,seval]) | (refine gF ?_ ?_<;>intro hq<;>simp (disch:=omega) only [Sh.out hq,go_sem,seval,↓reduceIte]) | (refine cD ?_ ?_<;>intro hq<;>simp (disch:=omega) only [Sh.out hq,go_sem,seval,↓reduceIte]))
     all_goals try exact ⟨m,hm.no Za,wk⟩
     all_goals
      refine (Aw k hI).use ?_;simp (disch:=omega) only [go_sem,seval,↓reduceIte];exact ⟨m++ [(2,Bh k)],hm.yes Za (by simp only [pF];omega),wk⟩
    ·intro m hm;have hml:=hm.len;refine Zh [] _ _ _ _ (Zd ?_)
     have hI:QF (k:Int):=Za
     have hdl:=Jw k hI;refine Xj (Zd ?_)
     repeat' (first | (refine gT ?_ ?_<;>intro hq<;>simp (disch:=omega) only [Sh.out hq,go_sem,seval,↓reduceIte]) | (refine gF ?_ ?_<;>intro hq<;>simp (disch:=omega) only [Sh.out hq,go_sem,seval,↓reduceIte]) | (refine cD ?_ ?_<;>intro hq<;>simp (disch:=omega) only [Sh.out hq,go_sem,seval,↓reduceIte]))
     all_goals try exact ⟨(k+1,m),⟨by simp only;omega,(hm.no (c:=0<k->(nth l (k-1)).t<(nth l k).t/\(nth l (k-1)).a<=(nth l k).a) Za).to (by simp only;omega) (by simp only [Zr,oA,QS])⟩,by simp only;omega,wk⟩
     all_goals
      refine (Aw k hI).use ?_;simp (disch:=omega) only [go_sem,seval,↓reduceIte];exact ⟨(k+1,m++ [(13,Bh k)]),⟨by simp only;omega,(hm.yes (c:=0<k->(nth l (k-1)).t<(nth l k).t/\(nth l (k-1)).a<=(nth l k).a) Za (by simp only [pF];omega)).to (by simp only;omega) (by simp only [Zr,oA,QS])⟩,by simp only;omega,wk⟩
   ·have hkn:k=l.length:=Za
    subst hkn;exact ⟨m,hm.to Za (by rw [Vh]),0,by simp (disch:=omega) only [go_sem,seval]⟩
set_option maxHeartbeats 8000000
theorem pF.mono {j k:Nat} (h:j<=k) {f:Flt} (hf:pF j f):pF k f:=Kh hf h
theorem FR.pmono {α:Type} {p q:α->Prop} {C:Prop} {b:Nat} {l:List α} (h:FR p C b l) (hp: ∀x,p x->q x):FR q C b l:=⟨h.len,h.emp,fun x hx=>hp x (h.all x hx)⟩
theorem OS (n:Int):PC 97 [.p (.int .i64 n)] (.bool (Mx n)):=by
 refine Zc Tryz.func97 rfl Zkc ?_;simp (disch:=omega) only [Tryz.f97,go_sem,seval]
 repeat' (first | (refine gT ?_ ?_<;>intro hq<;>simp (disch:=omega) only [Sh.out hq,go_sem,seval,↓reduceIte]) | (refine Qi (fun hq=> ?_) (fun hq=> ?_)<;>(try simp only [Zq,Ya,Z1] at hq)<;>simp (disch:=omega) only [Sh.out hq,go_sem,seval]) | (refine QK (fun hq=> ?_) (fun hq=> ?_)<;>(try simp only [Zq,Ya,Z1] at hq)<;>simp (disch:=omega) only [Sh.out hq,go_sem,seval]))
 all_goals (simp [Mx,rng];first | done | omega | (rw [Wz];simp;omega))
def Z8 (n:Net):List AM.Obj:= [.cells [.p (.list n.places_c (n.places.map eS)),.p (.list n.arcs_c (n.arcs.map V1))]]
theorem Aj {P Q:Prop} (h:Q) (e:Q->P:=by intro h;simp (disch:=omega) only [Z8,go_sem,seval];exact h):P:=e h
theorem PJ (n:Net) (hp:n.places.length<=1048576) (hs: ∀s∈n.places,s.length<=1048576):ACalls Tryz.prog 70 [.p (Cj n)] [] fun x H'=> ∃m:List Flt,FR (pF 26) (K9 n) (n.places.length+1) m/\x= .sl 0 0 m.length m.length/\H'= [.elems 2 (m.map eF)]:=by
 refine ZI [2] Tryz.func70 rfl ZjO ?_;simp (disch:=omega) only [Tryz.f70,go_sem,seval];refine Zp (Weak.ofNil 3 2 (by simp (disch:=omega) only [go_sem,seval]) Zb (Weak.refl _ _ _)) ?_;refine ZM [1] (fun m:List Flt=> [(3,.sl 1 0 m.length m.length)]) (fun m=>Z8 n++ [.elems 2 (m.map eF)]) (fun m=>FR (pF 26) (n.places.length<=24) 1 m) ?_ ?_
 ·refine Zd ?_;refine Z0 ?_ ?_<;>intro h
  ·exact ⟨[(4,[112,108,97,99,101,115])],⟨Zb,by simp;omega,by simp [pF]⟩,Weak.mk (by simp (disch:=omega) only [Z8,go_sem,seval])⟩
  ·exact ⟨[],FR.nil Za,Weak.mk (by simp (disch:=omega) only [Z8,go_sem,seval])⟩
 ·intro m hm;refine Zh [] _ _ _ _ (Aj ?_);refine Zl [1] (fun q:Nat×List Flt=> [(3,.sl 1 0 q.2.length q.2.length),(4,.p (.int .i64 q.1))]) (fun q=>Z8 n++ [.elems 2 (q.2.map eF)]) (fun q=>q.1<=n.places.length/\FR (pF 26) (n.places.length<=24/\ ∀j,j<q.1->Rl n j) (q.1+1) q.2) (fun q=>n.places.length-q.1) (0,m) ⟨Zb,hm.to Zb Zb⟩ (Weak.mk ?_) ?_
  ·simp (disch:=omega) only [Z8,go_sem,seval]
  ·rintro ⟨k,m⟩ ⟨hk,hm⟩;simp only at hk hm;have hml:=hm.len;refine Aj ?_;refine cD ?_ ?_<;>intro h<;>simp (disch:=omega) only [Sh.out h,go_sem,seval,↓reduceIte]
   ·have hk2:k<n.places.length:=Za
    have hI:QF (k:Int):=Za
    have hdl:=Jw k hI;refine (Aw k hI).use (Zd ?_);simp (disch:=first | omega | (simp only [ZE,ZJ,ZA,ZB,Xd,XG]<;>omega)) only [go_sem,seval,↓reduceIte];refine (Rb (nth n.places k) (hs _ (by grind [Zi]))).use (Zd ?_);refine Z0 ?_ ?_<;>intro h2
    ·simp only [XN] at h2;exact ⟨(k+1,m++ [(5,[112,108,97,99,101,32]++Bh k)]),⟨Za,(hm.yes (c:=Rl n k) (by rw [Rl,h2];simp) (by simp [pF];omega)).to Zb (by grind)⟩,Za,wk⟩
    ·simp only [XR] at h2;refine Zl [1,3,4,5] (fun q:Nat×Bool=> [(6,.p (.bool q.2)),(7,.p (.int .i64 q.1))]) (fun _=>Z8 n++ [.elems 2 (m.map eF)]) (fun q=>q.1<=k/\(q.2=false↔ ∀j,j<q.1->nth n.places j≠nth n.places k)) (fun q=>k-q.1) (0,false) Zb (Weak.mk ?_) ?_
     ·simp (disch:=omega) only [Z8,go_sem,seval]
     ·rintro ⟨j,b⟩ ⟨hj,hb⟩;simp only at hj hb;refine Aj ?_;refine cD ?_ ?_<;>intro h3<;>simp (disch:=omega) only [Sh.out h3,go_sem,seval,↓reduceIte]
      ·refine ZF 14 mixed Zg Zg (Zd ?_)
       have hjn:j<n.places.length:=Za
       cases b with
       | true =>
        refine Zd ?_;exact ⟨(j+1,true),⟨Za,by grind⟩,Za,wk⟩
       | false =>
        refine Zd ?_;refine ⟨(j+1,decide (nth n.places j=nth n.places k)),⟨Za,by grind⟩,Za,wk⟩
      ·have hjk:j=k:=Za
       subst hjk
       cases b with
       | true =>
        refine Zd ?_
        have hno: ¬Rl n j:=fun h5=>by have:=hb.2 h5.2;cases this
        exact ⟨(j+1,m++ [(6,[112,108,97,99,101,32]++Bh j)]),⟨Za,(hm.yes (c:=Rl n j) hno (by simp [pF];omega)).to Zb (by grind)⟩,Za,wk⟩
       | false =>
        refine Zd ?_;exact ⟨(j+1,m),⟨Za,(hm.no (c:=Rl n j) ⟨h2,hb.1 rfl⟩).to Zb (by grind)⟩,Za,wk⟩
   ·have hkn:k=n.places.length:=Za
    subst hkn;exact ⟨m,hm.to Za (by rw [K9]),1,by simp (disch:=omega) only [go_sem,seval]⟩
set_option maxHeartbeats 16000000
def Vm (a:Arc):AM.Obj:= .cells [.p (.int .i64 a.src),.p (.int .i64 a.dst),.p (.int .i64 a.prof),.p (.int .i64 a.miles),.p (.list a.travel_c (a.travel.map HO)),.p (.list a.slow_c (a.slow.map HO))]
abbrev WW (a b:Arc):Prop:=a.src=b.src/\a.dst=b.dst/\a.prof=b.prof
theorem BX {P Q:Prop} (h:Q) (e:Q->P:=by intro h;simp (disch:=omega) only [Z8,Vm,go_sem,seval];exact h):P:=e h
theorem sN (n:Net) (i:Nat) (hi:i<n.arcs.length) (hp:n.places.length<=1048576) (ha:n.arcs.length<=1048576) (ht:(nth n.arcs i).travel.length<=1048576) (hsl:(nth n.arcs i).slow.length<=1048576) :
  ACalls Tryz.prog 71 [.p (Cj n),.p (.int .i64 (i:Nat))] [] fun x H'=> ∃m:List Flt,FR (pF 26) (MR n i) 4000000 m/\x= .sl 0 0 m.length m.length/\H'= [.elems 2 (m.map eF)]:=by
 refine ZI [4] Tryz.func71 rfl ZjP ?_;simp (disch:=omega) only [Tryz.f71,go_sem,seval]
 have hI:QF (i:Int):=Za
 have hdl:=Jw i hI;refine (Aw i hI).use (Zd ?_);simp (disch:=first | omega | (simp only [ZE,ZJ,ZA,ZB,Xd,XG]<;>omega)) only [go_sem,seval,↓reduceIte]
 have hat:(97::114::99::32::Bh i).length<=26:=by simp;omega
 generalize hga:nth n.arcs i=a at ht hsl ⊢;generalize 97::114::99::32::Bh i=at' at hat ⊢;refine Zp (Weak.ofNil 5 2 (by simp (disch:=omega) only [go_sem,seval]) Zb (Weak.refl _ _ _)) ?_;refine ZM [1,2,6,7] (fun m:List Flt=> [(5,.sl 2 0 m.length m.length)]) (fun m=>Z8 n++ [Vm a,.elems 2 (m.map eF)]) (fun m=>FR (pF 26) (0<=a.src/\a.src<n.places.length/\0<=a.dst/\a.dst<n.places.length) 1 m) ?_ ?_
 ·refine Zd ?_
  repeat' (first | (refine Un (fun hq=> ?_) (fun hq=> ?_)<;>(try simp only [Zq,Ya,Z1] at hq)<;>simp (disch:=omega) only [Sh.out hq,go_sem,seval]) | (refine gF ?_ ?_<;>intro hq<;>simp (disch:=omega) only [Sh.out hq,go_sem,seval]) | (refine cD ?_ ?_<;>intro hq<;>simp (disch:=omega) only [Sh.out hq,go_sem,seval]))
  all_goals try exact ⟨[],FR.nil Za,Weak.mk (by simp (disch:=omega) only [Z8,Vm,go_sem,seval])⟩
  all_goals exact ⟨[(11,at')],⟨Zb,by simp;omega,by simpa [pF] using hat⟩,Weak.mk (by simp (disch:=omega) only [Z8,Vm,go_sem,seval])⟩
 ·intro m hm;refine Zh [6] _ _ _ _ (BX ?_);have hml:=hm.len
  refine ZM [1,2,6,7] (fun m:List Flt=> [(5,.sl 2 0 m.length m.length)]) (fun m=>Z8 n++ [Vm a,.elems 2 (m.map eF)])
   (fun m=>FR (pF 26) ((0<=a.src/\a.src<n.places.length/\0<=a.dst/\a.dst<n.places.length)/\(0<=a.prof/\a.prof<=7/\0<=a.miles/\a.miles<=10000/\a.src≠a.dst)) 2 m) ?_ ?_
  ·refine Zd ?_
   repeat' (first | (refine Un (fun hq=> ?_) (fun hq=> ?_)<;>(try simp only [Zq,Ya,Z1] at hq)<;>simp (disch:=omega) only [Sh.out hq,go_sem,seval]) | (refine gF ?_ ?_<;>intro hq<;>simp (disch:=omega) only [Sh.out hq,go_sem,seval]) | (refine cD ?_ ?_<;>intro hq<;>simp (disch:=omega) only [Sh.out hq,go_sem,seval]))
   all_goals try exact ⟨m,hm.no Za,Weak.mk (by simp (disch:=omega) only [Z8,Vm,go_sem,seval])⟩
   all_goals exact ⟨m++ [(2,at')],hm.yes Za (by simpa [pF] using hat),Weak.mk (by simp (disch:=omega) only [Z8,Vm,go_sem,seval])⟩
  ·clear hm hml;intro m hm;refine Zh [14] _ _ _ _ (BX ?_);have hml:=hm.len;refine Z3 [14] [1,2,5,6,7] (fun q:Nat×Bool=> [(8,.p (.bool q.2)),(9,.p (.int .i64 q.1))]) (fun _=>Z8 n++ [Vm a,.elems 2 (m.map eF)]) (fun q=>q.1<=i/\(q.2=false↔ ∀j,j<q.1-> ¬WW a (nth n.arcs j))) (fun q=>i-q.1) (0,false) Zb (Weak.mk ?_) ?_
   ·simp (disch:=omega) only [Z8,Vm,go_sem,seval]
   ·rintro ⟨k,b⟩ ⟨hk,hb⟩;simp only at hk hb;refine BX ?_;refine cD ?_ ?_<;>intro h<;>simp (disch:=omega) only [Sh.out h,go_sem,seval,↓reduceIte]
    ·have hkn:k<n.arcs.length:=Za
     cases b with
     | true =>
      refine Zd ?_;exact ⟨(k+1,true),⟨Za,by grind⟩,Za,wk⟩
     | false =>
      refine Zd ?_
      repeat' (first | (refine gT ?_ ?_<;>intro hq<;>simp (disch:=omega) only [Sh.out hq,go_sem,seval]) | (refine Qi (fun hq=> ?_) (fun hq=> ?_)<;>(try simp only [Zq,Ya,Z1] at hq)<;>simp (disch:=omega) only [Sh.out hq,go_sem,seval]) | (refine QK (fun hq=> ?_) (fun hq=> ?_)<;>(try simp only [Zq,Ya,Z1] at hq)<;>simp (disch:=omega) only [Sh.out hq,go_sem,seval]))
      all_goals refine ⟨(k+1,decide (WW a (nth n.arcs k))),⟨by simp only;omega,by rw [Zr,<- hb];simp⟩,by simp only;omega,Weak.mk ?_⟩
      all_goals simp (disch:=omega) only [go_sem,seval]
      all_goals simp [WW, *]
    ·have hki:k=i:=Za
     subst hki;have htw:(b=false↔ ∀j,j<k-> ¬WW a (nth n.arcs j)):=hb;clear hb hk h
     refine ZM [6,7] (fun m:List Flt=> [(5,.sl 2 0 m.length m.length)]) (fun m=>Z8 n++ [Vm a,.elems 2 (m.map eF)])
      (fun m=>FR (pF 26) (((0<=a.src/\a.src<n.places.length/\0<=a.dst/\a.dst<n.places.length)/\(0<=a.prof/\a.prof<=7/\0<=a.miles/\a.miles<=10000/\a.src≠a.dst))/\ ∀j,j<k-> ¬WW a (nth n.arcs j)) 3 m) ?_ ?_
     ·refine Zd ?_
      cases b with
      | true =>
       refine Zd ?_;exact ⟨m++ [(6,at')],hm.yes (by grind) (by grind [pF]),Weak.mk (by simp (disch:=omega) only [Z8,Vm,go_sem,seval])⟩
      | false =>
       refine Zd ?_;exact ⟨m,hm.no (htw.1 rfl),Weak.mk (by simp (disch:=omega) only [Z8,Vm,go_sem,seval])⟩
     ·clear hm hml;intro m hm;refine Zh [21] _ _ _ _ (BX ?_);have hml:=hm.len;refine ((iV a.travel a.travel_c ht).frozenE).useV fun lt hlt=>Zd ?_;have hltl:=hlt.len
      refine Z3 [21] [6,7,11] (fun q:Nat×List Flt=> [(5,.sl 2 0 q.2.length q.2.length),(12,.p (.int .i64 q.1))]) (fun q=>Z8 n++ [Vm a,.elems 2 (q.2.map eF)])
       (fun q=>q.1<=lt.length/\FR (pF 26) ((((0<=a.src/\a.src<n.places.length/\0<=a.dst/\a.dst<n.places.length)/\(0<=a.prof/\a.prof<=7/\0<=a.miles/\a.miles<=10000/\a.src≠a.dst))/\ ∀j,j<k-> ¬WW a (nth n.arcs j))/\q.1=0) (3+q.1) q.2) (fun q=>lt.length-q.1) (0,m) ⟨Zb,hm.to Zb Zb⟩ (Weak.mk ?_) ?_
      ·simp (disch:=omega) only [Z8,Vm,go_sem,seval]
      ·clear hm hml;rintro ⟨j,m⟩ ⟨hj,hm⟩;simp only at hj hm;have hml:=hm.len;refine BX ?_;refine Z0 ?_ ?_<;>intro h
       ·have hj2:j<lt.length:=Za
        exact ⟨(j+1,m++ [((nth lt j).1,at')]),⟨Za,(hm.yes (c:=False) Zb (by grind [pF])).to Za Zb⟩,Za,wk⟩
       ·have hjl:j=lt.length:=Za
        subst hjl;have hm2:=hm.to (d:=3+lt.length) (D:=(((0<=a.src/\a.src<n.places.length/\0<=a.dst/\a.dst<n.places.length)/\(0<=a.prof/\a.prof<=7/\0<=a.miles/\a.miles<=10000/\a.src≠a.dst))/\ ∀j,j<k-> ¬WW a (nth n.arcs j))/\Vh a.travel) (Zy _) (by rw [<- hlt.emp,List.eq_nil_iff_length_eq_zero]);clear hm
        refine ZM [6,7] (fun m:List Flt=> [(5,.sl 2 0 m.length m.length)]) (fun m=>Z8 n++ [Vm a,.elems 2 (m.map eF)])
         (fun m=>FR (pF 26) (((((0<=a.src/\a.src<n.places.length/\0<=a.dst/\a.dst<n.places.length)/\(0<=a.prof/\a.prof<=7/\0<=a.miles/\a.miles<=10000/\a.src≠a.dst))/\ ∀j,j<k-> ¬WW a (nth n.arcs j))/\Vh a.travel)/\a.slow.length<=16) (4+lt.length) m) ?_ ?_
        ·refine Zd ?_;refine Z0 ?_ ?_<;>intro h2
         ·exact ⟨m++ [(4,at')],(hm2.yes Za (by grind [pF])).to Za Iff.rfl,Weak.mk (by simp (disch:=omega) only [Z8,Vm,go_sem,seval])⟩
         ·exact ⟨m,(hm2.no Za).to Za Iff.rfl,Weak.mk (by simp (disch:=omega) only [Z8,Vm,go_sem,seval])⟩
        ·clear hm2 hml h hj;intro m hm;refine Zh [] _ _ _ _ (BX ?_)
         refine Zl [6,7] (fun q:Nat×List Flt=> [(5,.sl 2 0 q.2.length q.2.length),(13,.p (.int .i64 q.1))]) (fun q=>Z8 n++ [Vm a,.elems 2 (q.2.map eF)])
          (fun q=>q.1<=a.slow.length/\FR (pF 26) ((((((0<=a.src/\a.src<n.places.length/\0<=a.dst/\a.dst<n.places.length)/\(0<=a.prof/\a.prof<=7/\0<=a.miles/\a.miles<=10000/\a.src≠a.dst))/\ ∀j,j<k-> ¬WW a (nth n.arcs j))/\Vh a.travel)/\a.slow.length<=16)/\ ∀j,j<q.1->Ah a.slow j) (4+lt.length+q.1) q.2) (fun q=>a.slow.length-q.1) (0,m) ⟨Zb,hm.to Zb Zb⟩ (Weak.mk ?_) ?_
         ·simp (disch:=omega) only [Z8,Vm,go_sem,seval]
         ·clear hm;rintro ⟨j,m⟩ ⟨hj,hm⟩;simp only at hj hm;have hml:=hm.len;refine BX ?_;refine cD ?_ ?_<;>intro h<;>simp (disch:=omega) only [Sh.out h,go_sem,seval,↓reduceIte]
          ·have hj2:j<a.slow.length:=Za
           refine Xj (Zd ?_);refine Zo (OS (nth a.slow j).t) (Zd ?_);have hslo:Ah a.slow j↔(Mx (nth a.slow j).t=true/\Mx (nth a.slow j).a=true/\(0<j->(nth a.slow (j-1)).t<(nth a.slow j).t)):=Iff.rfl;have hyes: ¬Ah a.slow j->_:=fun hs=>(hm.yes (x:=(2,at')) hs (by grind [pF])).to (D:=(((((0<=a.src/\a.src<n.places.length/\0<=a.dst/\a.dst<n.places.length)/\(0<=a.prof/\a.prof<=7/\0<=a.miles/\a.miles<=10000/\a.src≠a.dst))/\ ∀j,j<k-> ¬WW a (nth n.arcs j))/\Vh a.travel)/\a.slow.length<=16)/\ ∀i,i<j+1->Ah a.slow i) (d:=4+lt.length+(j+1)) Za (by grind)
           have hno:Ah a.slow j->_:=fun hs=>(hm.no hs).to (D:=(((((0<=a.src/\a.src<n.places.length/\0<=a.dst/\a.dst<n.places.length)/\(0<=a.prof/\a.prof<=7/\0<=a.miles/\a.miles<=10000/\a.src≠a.dst))/\ ∀j,j<k-> ¬WW a (nth n.arcs j))/\Vh a.travel)/\a.slow.length<=16)/\ ∀i,i<j+1->Ah a.slow i) (d:=4+lt.length+(j+1)) Za (by grind)
           cases ht1:Mx (nth a.slow j).t with
           | false =>
            refine Zd ?_;exact ⟨(j+1,m++ [(2,at')]),⟨Za,hyes (by grind)⟩,Za,wk⟩
           | true =>
            refine Zd ?_;refine Zo (OS (nth a.slow j).a) (Zd ?_)
            cases ht2:Mx (nth a.slow j).a with
            | false =>
             refine Zd ?_;exact ⟨(j+1,m++ [(2,at')]),⟨Za,hyes (by grind)⟩,Za,wk⟩
            | true =>
             refine Zd ?_
             repeat' (first | (refine gT ?_ ?_<;>intro hq<;>simp (disch:=omega) only [Sh.out hq,go_sem,seval]) | (refine Qi (fun hq=> ?_) (fun hq=> ?_)<;>(try simp only [Zq,Ya,Z1] at hq)<;>simp (disch:=omega) only [Sh.out hq,go_sem,seval]) | (refine cD ?_ ?_<;>intro hq<;>simp (disch:=omega) only [Sh.out hq,go_sem,seval]))
             ·exact ⟨(j+1,m++ [(2,at')]),⟨Za,hyes (by grind)⟩,Za,wk⟩
             ·exact ⟨(j+1,m),⟨Za,hno (by grind)⟩,Za,wk⟩
             ·exact ⟨(j+1,m),⟨Za,hno (by grind)⟩,Za,wk⟩
          ·have hjn:j=a.slow.length:=Za
           subst hjn;exact ⟨m,hm.to Za (by rw [MR,hga]),2,by simp (disch:=omega) only [go_sem,seval]⟩
theorem Zu {α:Type} [Inhabited α] {l:List α} {i:Nat} (h:i<l.length):nth l i∈l:=by grind [Zi]
theorem Zay (n:Net) (hw:n.wf 1048576):ACalls Tryz.prog 38 [.p (Cj n)] [] fun x H'=> ∃m:List Flt,FR (pF 26) (netOk n) 4194306000000 m/\x= .sl 0 0 m.length m.length/\H'= [.elems 2 (m.map eF)]:=by
 obtain ⟨w1,w2,w3,w4⟩:=hw;refine ZI [2] Tryz.func38 rfl Zjl ?_;simp (disch:=omega) only [Tryz.f38,go_sem,seval];refine (PJ n w1 w2).useE fun m hm=>Zd ?_;have hml:=hm.len;refine ZM [1] (fun m:List Flt=> [(3,.sl 1 0 m.length m.length)]) (fun m=>Z8 n++ [.elems 2 (m.map eF)]) (fun m=>FR (pF 26) (K9 n/\n.arcs.length<=1024) (n.places.length+2) m) ?_ ?_
 ·refine Zd ?_;refine Z0 ?_ ?_<;>intro h
  ·exact ⟨m++ [(4,[97,114,99,115])],hm.yes Za (by simp [pF]),Weak.mk (by simp (disch:=omega) only [Z8,go_sem,seval])⟩
  ·exact ⟨m,hm.no Za,Weak.mk (by simp (disch:=omega) only [Z8,go_sem,seval])⟩
 ·clear hm hml;intro m hm;refine Zh [] _ _ _ _ (Aj ?_);refine Zl [1] (fun q:Nat×List Flt=> [(3,.sl 1 0 q.2.length q.2.length),(4,.p (.int .i64 q.1))]) (fun q=>Z8 n++ [.elems 2 (q.2.map eF)]) (fun q=>q.1<=n.arcs.length/\FR (pF 26) ((K9 n/\n.arcs.length<=1024)/\ ∀j,j<q.1->MR n j) (n.places.length+2+q.1*4000000) q.2) (fun q=>n.arcs.length-q.1) (0,m) ⟨Zb,hm.to Zb Zb⟩ (Weak.mk ?_) ?_
  ·simp (disch:=omega) only [Z8,go_sem,seval]
  ·clear hm;rintro ⟨k,m⟩ ⟨hk,hm⟩;simp only at hk hm;have hml:=hm.len;refine Aj ?_;refine cD ?_ ?_<;>intro h<;>simp (disch:=omega) only [Sh.out h,go_sem,seval,↓reduceIte]
   ·have hk2:k<n.arcs.length:=Za
    have ha:=w4 _ (Zu hk2);refine (sN n k hk2 w1 w3 ha.2.2.2.2.1 ha.2.2.2.2.2.2.1).useE fun f hf=>Zd ?_;have hfl:=hf.len
    have q1:(m.length+f.length)*24<=140737488355328:=Za
    have q2:m.length+f.length<=140737488355328:=Za
    simp (disch:=omega) only [q1,q2,go_sem,seval];refine ⟨(k+1,m++f),⟨Za,(hm.app hf).to Za (by grind)⟩,Za,Weak.mk ?_⟩;simp (disch:=omega) only [ZA,Xy,go_sem,seval]
   ·have hkn:k=n.arcs.length:=Za
    subst hkn;exact ⟨m,hm.to Za (by rw [netOk]),1,by simp (disch:=omega) only [go_sem,seval]⟩
theorem VM (n lo hi:Int):PC 72 [.p (.int .i64 n),.p (.int .i64 lo),.p (.int .i64 hi)] (.bool (rng n lo hi)):=by
 refine Zc Tryz.func72 rfl ZjQ ?_;simp (disch:=omega) only [Tryz.f72,go_sem,seval];refine gT ?_ ?_<;>intro h<;>simp (disch:=omega) only [Sh.out h,go_sem,seval,↓reduceIte]
 all_goals (simp [rng];first | done | omega | (rw [Wz];simp;omega))
def VI (l:List Int) (d:Int):Bool:=rng l.length 1 3&&decide ((l.length:Int)=d)&&l.all fun n=>rng n 0 1000
theorem PG (l:List Int) (c:Bool) (d:Int) (hl:l.length<=1048576):PC 99 [.p (.list c (l.map eI)),.p (.int .i64 d)] (.bool (VI l d)):=by
 refine Zc Tryz.func99 rfl Zke ?_;simp (disch:=omega) only [Tryz.f99,go_sem,seval];refine (VM l.length 1 3).use (Zd ?_);refine gF ?_ ?_<;>intro h<;>simp (disch:=omega) only [Sh.out h,go_sem,seval,↓reduceIte]
 ·grind [VI]
 ·simp only [XR] at h;refine cD ?_ ?_<;>intro h2<;>simp (disch:=omega) only [Sh.out h2,go_sem,seval]
  ·simp [VI,h,h2]
  ·simp only [Z1] at h2;subst h2;refine Zl [0] (fun k:Nat=> [(5,.p (.int .i64 k))]) (fun _=> []) (fun k=>k<=l.length/\ ∀j,j<k->rng (nth l j) 0 1000=true) (fun k=>l.length-k) 0 Zb (Weak.mk ?_) ?_
   ·simp (disch:=omega) only [go_sem,seval,↓reduceIte]
   ·rintro k ⟨hk,hno⟩;refine Zd ?_;refine cD ?_ ?_<;>intro h3<;>simp (disch:=omega) only [Sh.out h3,go_sem,seval,↓reduceIte]
    ·have hk2:k<l.length:=Za
     refine (VM (nth l k) 0 1000).use (Zd ?_);refine cD ?_ ?_<;>intro h4<;>simp (disch:=omega) only [Sh.out h4,go_sem,seval,↓reduceIte]
     ·grind [Zu,VI]
     ·simp only [XR] at h4;exact ⟨k+1,⟨Za,Zr.2 ⟨hno,h4⟩⟩,Za,wk⟩
    ·have:l.all (fun n=>rng n 0 1000)=true:=by
      rw [ZD];intro x hx;obtain ⟨j,hj,rfl⟩:=ZU.1 hx
      grind [Zi]
     grind [VI]
def P6 (l:List Typ) (i:Nat) (s:List UInt8):Bool:=(List.range i).any fun j=>decide ((nth l j).name=s)
theorem U4 {l:List Typ} {i:Nat} {s:List UInt8} :P6 l i s=false↔ ∀j,j<i->(nth l j).name≠s:=by
 grind [P6]
theorem bY (l:List Typ) (c:Bool) (i:Nat) (s:List UInt8) (hi:i<=l.length) (hl:l.length<=1048576):PC 98 [.p (.list c (l.map X7)),.p (.int .i64 (i:Nat)),.p (.str s)] (.bool (P6 l i s)):=by
 refine Zc Tryz.func98 rfl Zkd ?_;simp (disch:=omega) only [Tryz.f98,go_sem,seval];refine Zl [0,1,2] (fun k:Nat=> [(7,.p (.int .i64 k))]) (fun _=> []) (fun k=>k<=i/\ ∀j,j<k->(nth l j).name≠s) (fun k=>i-k) 0 Zb (Weak.mk ?_) ?_
 ·simp (disch:=omega) only [go_sem,seval,↓reduceIte]
 ·rintro k ⟨hk,hno⟩;refine Zd ?_;refine cD ?_ ?_<;>intro h3<;>simp (disch:=omega) only [Sh.out h3,go_sem,seval,↓reduceIte]
  ·have hk2:k<l.length:=Za
   refine cD ?_ ?_<;>intro h4<;>simp (disch:=omega) only [Sh.out h4,go_sem,seval,↓reduceIte]
   ·grind [U4]
   ·exact ⟨k+1,⟨Za,Zr.2 ⟨hno,h4⟩⟩,Za,wk⟩
  grind [U4]
def dimsOf (l:List Typ):Int:=if l.length=0 then 0 else ((nth l 0).cap.length:Int)
theorem Nh (l:List Typ) (c:Bool) (hl:l.length<=1048576):PC 41 [.p (.list c (l.map X7))] (.int .i64 (dimsOf l)):=by
 refine Zc Tryz.func41 rfl Zjo ?_;simp (disch:=omega) only [Tryz.f41,go_sem,seval];refine cD ?_ ?_<;>intro h<;>simp (disch:=omega) only [Sh.out h,go_sem,seval,↓reduceIte]
 ·grind [dimsOf]
 ·have h0:0<l.length:=Za
  have h1:l.length≠0:=Za
  simp (disch:=first | omega | (simp only [ZE,ZJ,ZA,ZB,Xd,XG]<;>omega)) only [dimsOf,h1,go_sem,seval,↓reduceIte]
def Yj (t:Typ):AM.Obj:= .cells [.p (.str t.name),.p (.int .i64 t.count),.p (.int .i64 t.src),.p (.int .i64 t.dst),.p (.list t.cap_c (t.cap.map eI)),.p (.int .i64 t.skills),.p (.int .i64 t.prof),.p (.int .i64 t.opn),.p (.int .i64 t.cls),.p (.int .i64 t.drive),.p (.int .i64 t.rest),.p (.int .i64 t.fixed),.p (.int .i64 t.perMile),.p (.int .i64 t.perTick)]
def UE (n:Net) (l:List Typ) (i:Nat):Prop:=((((((((nameOk (nth l i).name=true)/\(∀j,j<i->(nth l j).name≠(nth l i).name))/\rng (nth l i).count 0 10=true)/\(rng (nth l i).src 0 (n.places.length-1)=true/\rng (nth l i).dst 0 (n.places.length-1)=true))/\VI (nth l i).cap (dimsOf l)=true)/\rng (nth l i).skills 0 1073741823=true)/\(rng (nth l i).opn 0 (nth l i).cls=true/\(nth l i).cls<=4096))/\(rng (nth l i).drive 1 4096=true/\rng (nth l i).rest 0 4096=true))/\(rng (nth l i).prof 0 7=true/\rng (nth l i).fixed 0 100000=true/\rng (nth l i).perMile 0 100=true/\rng (nth l i).perTick 0 100=true)
theorem Dl {P Q:Prop} (h:Q) (e:Q->P:=by intro h;simp (disch:=omega) only [Z8,Yj,go_sem,seval];exact h):P:=e h
theorem dX (n:Net) (l:List Typ) (c:Bool) (i:Nat) (hi:i<l.length) (hl:l.length<=1048576) (hw:n.wf 1048576) (ht:(nth l i).wf 1048576) :
  ACalls Tryz.prog 73 [.p (Cj n),.p (.list c (l.map X7)),.p (.int .i64 (i:Nat))] [] fun x H'=> ∃m:List Int,FR (fun _=>True) (UE n l i) 9 m/\x= .sl 0 0 m.length m.length/\H'= [.elems 1 (m.map eI)]:=by
 obtain ⟨w1,w2,w3,w4⟩:=hw;refine ZI [3] Tryz.func73 rfl ZjR ?_;simp (disch:=omega) only [Tryz.f73,go_sem,seval];have hty:UE n l i↔((((((((nameOk (nth l i).name=true)/\(∀j,j<i->(nth l j).name≠(nth l i).name))/\rng (nth l i).count 0 10=true)/\(rng (nth l i).src 0 (n.places.length-1)=true/\rng (nth l i).dst 0 (n.places.length-1)=true))/\VI (nth l i).cap (dimsOf l)=true)/\rng (nth l i).skills 0 1073741823=true)/\(rng (nth l i).opn 0 (nth l i).cls=true/\(nth l i).cls<=4096))/\(rng (nth l i).drive 1 4096=true/\rng (nth l i).rest 0 4096=true))/\(rng (nth l i).prof 0 7=true/\rng (nth l i).fixed 0 100000=true/\rng (nth l i).perMile 0 100=true/\rng (nth l i).perTick 0 100=true):=Iff.rfl
 generalize hga:nth l i=t at ht hty ⊢;have hname:=ht.1;have hcap:=ht.2.2.2.2.1;refine Zp (Weak.ofNil 8 1 (by simp (disch:=omega) only [go_sem,seval]) Zb (Weak.refl _ _ _)) ?_;refine ZM [1,2,3,7] (fun m:List Int=> [(8,.sl 2 0 m.length m.length)]) (fun m=>Z8 n++ [Yj t,.elems 1 (m.map eI)]) (fun m=>FR (fun _=>True) (nameOk t.name=true) 1 m) ?_ ?_
 ·refine Zd ?_;refine (Rb t.name hname).use (Zd ?_);refine Z0 ?_ ?_<;>intro h0
  ·simp only [XN] at h0;exact ⟨[5],⟨Zb,by simp [h0],Zb⟩,Weak.mk (by simp (disch:=omega) only [Z8,Yj,go_sem,seval])⟩
  ·simp only [XR] at h0;exact ⟨[],FR.nil (by simp [h0]),Weak.mk (by simp (disch:=omega) only [Z8,Yj,go_sem,seval])⟩
 ·skip
  intro m hm;refine Zh [5] _ _ _ _ (Dl ?_);have hml:=hm.len;refine ZM [1,3,7] (fun m:List Int=> [(8,.sl 2 0 m.length m.length)]) (fun m=>Z8 n++ [Yj t,.elems 1 (m.map eI)]) (fun m=>FR (fun _=>True) ((nameOk t.name=true)/\(∀j,j<i->(nth l j).name≠t.name)) 2 m) ?_ ?_
  ·refine Zd ?_;refine (bY l c i t.name Za hl).use (Zd ?_);refine Z0 ?_ ?_<;>intro h
   ·exact ⟨m++ [6],hm.yes (by grind [U4]) trivial,Weak.mk (by simp (disch:=omega) only [Z8,Yj,go_sem,seval])⟩
   ·exact ⟨m,hm.no (by exact U4.1 h),Weak.mk (by simp (disch:=omega) only [Z8,Yj,go_sem,seval])⟩
  ·clear hm hml;intro m hm;refine Zh [7] _ _ _ _ (Dl ?_);have hml:=hm.len;refine ZM [1,3,7] (fun m:List Int=> [(8,.sl 2 0 m.length m.length)]) (fun m=>Z8 n++ [Yj t,.elems 1 (m.map eI)]) (fun m=>FR (fun _=>True) (((nameOk t.name=true)/\(∀j,j<i->(nth l j).name≠t.name))/\rng t.count 0 10=true) 3 m) ?_ ?_
   ·refine Zd ?_;refine (VM t.count 0 10).use (Zd ?_);refine Z0 ?_ ?_<;>intro h0
    ·simp only [XN] at h0;exact ⟨m++ [22],hm.yes (by simp [h0]) trivial,Weak.mk (by simp (disch:=omega) only [Z8,Yj,go_sem,seval])⟩
    ·simp only [XR] at h0;exact ⟨m,hm.no (by simp [h0]),Weak.mk (by simp (disch:=omega) only [Z8,Yj,go_sem,seval])⟩
   ·clear hm hml;intro m hm;refine Zh [9] _ _ _ _ (Dl ?_);have hml:=hm.len;refine ZM [1,7] (fun m:List Int=> [(8,.sl 2 0 m.length m.length)]) (fun m=>Z8 n++ [Yj t,.elems 1 (m.map eI)]) (fun m=>FR (fun _=>True) ((((nameOk t.name=true)/\(∀j,j<i->(nth l j).name≠t.name))/\rng t.count 0 10=true)/\(rng t.src 0 (n.places.length-1)=true/\rng t.dst 0 (n.places.length-1)=true)) 4 m) ?_ ?_
    ·refine Zd ?_;refine (VM t.src 0 (n.places.length-1)).use (Zd ?_);refine Lr ?_ ?_<;>intro h0
     ·simp only [XN] at h0;exact ⟨m++ [11],hm.yes (by simp [h0]) trivial,Weak.mk (by simp (disch:=omega) only [Z8,Yj,go_sem,seval])⟩
     ·simp only [XR] at h0;refine (VM t.dst 0 (n.places.length-1)).use (Zd ?_);refine Z0 ?_ ?_<;>intro h1
      ·simp only [XN] at h1;exact ⟨m++ [11],hm.yes (by simp [h1]) trivial,Weak.mk (by simp (disch:=omega) only [Z8,Yj,go_sem,seval])⟩
      ·simp only [XR] at h1;exact ⟨m,hm.no (by simp [h0,h1]),Weak.mk (by simp (disch:=omega) only [Z8,Yj,go_sem,seval])⟩
    ·clear hm hml;intro m hm;refine Zh [11] _ _ _ _ (Dl ?_);have hml:=hm.len;refine ZM [7] (fun m:List Int=> [(8,.sl 2 0 m.length m.length)]) (fun m=>Z8 n++ [Yj t,.elems 1 (m.map eI)]) (fun m=>FR (fun _=>True) (((((nameOk t.name=true)/\(∀j,j<i->(nth l j).name≠t.name))/\rng t.count 0 10=true)/\(rng t.src 0 (n.places.length-1)=true/\rng t.dst 0 (n.places.length-1)=true))/\VI t.cap (dimsOf l)=true) 5 m) ?_ ?_
     ·refine Zd ?_;refine Xj (Zd ?_);refine Zo (Nh l c hl) (Zd ?_);refine Zo (PG t.cap t.cap_c (dimsOf l) hcap) (Zd ?_);refine Z0 ?_ ?_<;>intro h
      ·simp only [XN] at h;exact ⟨m++ [17],hm.yes (by simp [h]) trivial,Weak.mk (by simp (disch:=omega) only [Z8,Yj,go_sem,seval])⟩
      ·simp only [XR] at h;exact ⟨m,hm.no (by simp [h]),Weak.mk (by simp (disch:=omega) only [Z8,Yj,go_sem,seval])⟩
     ·clear hm hml;intro m hm;refine Zh [13] _ _ _ _ (Dl ?_);have hml:=hm.len;refine ZM [7] (fun m:List Int=> [(8,.sl 2 0 m.length m.length)]) (fun m=>Z8 n++ [Yj t,.elems 1 (m.map eI)]) (fun m=>FR (fun _=>True) ((((((nameOk t.name=true)/\(∀j,j<i->(nth l j).name≠t.name))/\rng t.count 0 10=true)/\(rng t.src 0 (n.places.length-1)=true/\rng t.dst 0 (n.places.length-1)=true))/\VI t.cap (dimsOf l)=true)/\rng t.skills 0 1073741823=true) 6 m) ?_ ?_
      ·refine Zd ?_;refine (VM t.skills 0 1073741823).use (Zd ?_);refine Z0 ?_ ?_<;>intro h0
       ·simp only [XN] at h0;exact ⟨m++ [18],hm.yes (by simp [h0]) trivial,Weak.mk (by simp (disch:=omega) only [Z8,Yj,go_sem,seval])⟩
       ·simp only [XR] at h0;exact ⟨m,hm.no (by simp [h0]),Weak.mk (by simp (disch:=omega) only [Z8,Yj,go_sem,seval])⟩
      ·clear hm hml;intro m hm;refine Zh [15] _ _ _ _ (Dl ?_);have hml:=hm.len;refine ZM [7] (fun m:List Int=> [(8,.sl 2 0 m.length m.length)]) (fun m=>Z8 n++ [Yj t,.elems 1 (m.map eI)]) (fun m=>FR (fun _=>True) (((((((nameOk t.name=true)/\(∀j,j<i->(nth l j).name≠t.name))/\rng t.count 0 10=true)/\(rng t.src 0 (n.places.length-1)=true/\rng t.dst 0 (n.places.length-1)=true))/\VI t.cap (dimsOf l)=true)/\rng t.skills 0 1073741823=true)/\(rng t.opn 0 t.cls=true/\t.cls<=4096)) 7 m) ?_ ?_
       ·refine Zd ?_;refine (VM t.opn 0 t.cls).use (Zd ?_);refine Lr ?_ ?_<;>intro h0
        ·simp only [XN] at h0;exact ⟨m++ [15],hm.yes (by simp [h0]) trivial,Weak.mk (by simp (disch:=omega) only [Z8,Yj,go_sem,seval])⟩
        ·simp only [XR] at h0;refine Z0 ?_ ?_<;>intro h1
         ·exact ⟨m++ [15],hm.yes Za trivial,Weak.mk (by simp (disch:=omega) only [Z8,Yj,go_sem,seval])⟩
         ·exact ⟨m,hm.no (by grind),Weak.mk (by simp (disch:=omega) only [Z8,Yj,go_sem,seval])⟩
       ·clear hm hml;intro m hm;refine Zh [17] _ _ _ _ (Dl ?_);have hml:=hm.len;refine ZM [7] (fun m:List Int=> [(8,.sl 2 0 m.length m.length)]) (fun m=>Z8 n++ [Yj t,.elems 1 (m.map eI)]) (fun m=>FR (fun _=>True) ((((((((nameOk t.name=true)/\(∀j,j<i->(nth l j).name≠t.name))/\rng t.count 0 10=true)/\(rng t.src 0 (n.places.length-1)=true/\rng t.dst 0 (n.places.length-1)=true))/\VI t.cap (dimsOf l)=true)/\rng t.skills 0 1073741823=true)/\(rng t.opn 0 t.cls=true/\t.cls<=4096))/\(rng t.drive 1 4096=true/\rng t.rest 0 4096=true)) 8 m) ?_ ?_
        ·refine Zd ?_;refine (VM t.drive 1 4096).use (Zd ?_);refine Lr ?_ ?_<;>intro h0
         ·simp only [XN] at h0;exact ⟨m++ [16],hm.yes (by simp [h0]) trivial,Weak.mk (by simp (disch:=omega) only [Z8,Yj,go_sem,seval])⟩
         ·simp only [XR] at h0;refine (VM t.rest 0 4096).use (Zd ?_);refine Z0 ?_ ?_<;>intro h1
          ·simp only [XN] at h1;exact ⟨m++ [16],hm.yes (by simp [h1]) trivial,Weak.mk (by simp (disch:=omega) only [Z8,Yj,go_sem,seval])⟩
          ·simp only [XR] at h1;exact ⟨m,hm.no (by simp [h0,h1]),Weak.mk (by simp (disch:=omega) only [Z8,Yj,go_sem,seval])⟩
        ·clear hm hml;intro m hm;refine Zh [19] _ _ _ _ (Dl ?_);have hml:=hm.len;refine ZM [] (fun m:List Int=> [(8,.sl 2 0 m.length m.length)]) (fun m=>Z8 n++ [Yj t,.elems 1 (m.map eI)]) (fun m=>FR (fun _=>True) (((((((((nameOk t.name=true)/\(∀j,j<i->(nth l j).name≠t.name))/\rng t.count 0 10=true)/\(rng t.src 0 (n.places.length-1)=true/\rng t.dst 0 (n.places.length-1)=true))/\VI t.cap (dimsOf l)=true)/\rng t.skills 0 1073741823=true)/\(rng t.opn 0 t.cls=true/\t.cls<=4096))/\(rng t.drive 1 4096=true/\rng t.rest 0 4096=true))/\(rng t.prof 0 7=true/\rng t.fixed 0 100000=true/\rng t.perMile 0 100=true/\rng t.perTick 0 100=true)) 9 m) ?_ ?_
         ·refine Zd ?_;refine (VM t.prof 0 7).use (Zd ?_);refine gF ?_ ?_<;>intro h0<;>simp (disch:=omega) only [Sh.out h0,go_sem,seval,↓reduceIte]
          ·simp only [XN] at h0;exact ⟨m++ [2],hm.yes (by simp [h0]) trivial,Weak.mk (by simp (disch:=omega) only [Z8,Yj,go_sem,seval])⟩
          ·simp only [XR] at h0;refine (VM t.fixed 0 100000).use (Zd ?_);refine gF ?_ ?_<;>intro h1<;>simp (disch:=omega) only [Sh.out h1,go_sem,seval,↓reduceIte]
           ·simp only [XN] at h1;exact ⟨m++ [2],hm.yes (by simp [h1]) trivial,Weak.mk (by simp (disch:=omega) only [Z8,Yj,go_sem,seval])⟩
           ·simp only [XR] at h1;refine (VM t.perMile 0 100).use (Zd ?_);refine gF ?_ ?_<;>intro h2<;>simp (disch:=omega) only [Sh.out h2,go_sem,seval,↓reduceIte]
            ·simp only [XN] at h2;exact ⟨m++ [2],hm.yes (by simp [h2]) trivial,Weak.mk (by simp (disch:=omega) only [Z8,Yj,go_sem,seval])⟩
            ·simp only [XR] at h2;refine (VM t.perTick 0 100).use (Zd ?_);refine cD ?_ ?_<;>intro h3<;>simp (disch:=omega) only [Sh.out h3,go_sem,seval,↓reduceIte]
             ·simp only [XN] at h3;exact ⟨m++ [2],hm.yes (by simp [h3]) trivial,Weak.mk (by simp (disch:=omega) only [Z8,Yj,go_sem,seval])⟩
             ·simp only [XR] at h3;exact ⟨m,hm.no (by grind),Weak.mk (by simp (disch:=omega) only [Z8,Yj,go_sem,seval])⟩
         ·clear hm hml;intro m hm;refine Zh [] _ _ _ _ (Dl ?_);have hml:=hm.len;exact ⟨m,hm.to Za (by rw [hty]),2,by simp (disch:=omega) only [go_sem,seval]⟩
def typesOk (n:Net) (l:List Typ):Prop:=rng l.length 1 6=true/\ ∀i,i<l.length->UE n l i
theorem Zaz (n:Net) (l:List Typ) (c:Bool) (hw:n.wf 1048576) (hl:l.length<=1048576) (hlw: ∀t∈l,t.wf 1048576) :
  ACalls Tryz.prog 39 [.p (Cj n),.p (.list c (l.map X7))] [] fun x H'=> ∃m:List Flt,FR (pF 20) (typesOk n l) (1+9*l.length) m/\x= .sl 0 0 m.length m.length/\H'= [.elems 2 (m.map eF)]:=by
 refine ZI [2] Tryz.func39 rfl Zjm ?_;simp (disch:=omega) only [Tryz.f39,go_sem,seval];refine Zp (Weak.ofNil 5 2 (by simp (disch:=omega) only [go_sem,seval]) Zb (Weak.refl _ _ _)) ?_;refine ZM [1,2] (fun m:List Flt=> [(5,.sl 1 0 m.length m.length)]) (fun m=>Z8 n++ [.elems 2 (m.map eF)]) (fun m=>FR (pF 20) (rng l.length 1 6=true) 1 m) ?_ ?_
 ·refine Zd ?_;refine (VM l.length 1 6).use (Zd ?_);refine Z0 ?_ ?_<;>intro h
  ·simp only [XN] at h;exact ⟨[(4,[])],⟨Zb,by simp [h],by simp [pF]⟩,Weak.mk (by simp (disch:=omega) only [Z8,go_sem,seval])⟩
  ·simp only [XR] at h;exact ⟨[],FR.nil h,Weak.mk (by simp (disch:=omega) only [Z8,go_sem,seval])⟩
 ·intro m hm;refine Zh [] _ _ _ _ (Aj ?_);refine Zl [1,2] (fun q:Nat×List Flt=> [(5,.sl 1 0 q.2.length q.2.length),(6,.p (.int .i64 q.1))]) (fun q=>Z8 n++ [.elems 2 (q.2.map eF)]) (fun q=>q.1<=l.length/\FR (pF 20) (rng l.length 1 6=true/\ ∀j,j<q.1->UE n l j) (1+9*q.1) q.2) (fun q=>l.length-q.1) (0,m) ⟨Zb,hm.to Zb Zb⟩ (Weak.mk ?_) ?_
  ·simp (disch:=omega) only [Z8,go_sem,seval]
  ·clear hm;rintro ⟨k,m⟩ ⟨hk,hm⟩;simp only at hk hm;have hml:=hm.len;refine Aj ?_;refine cD ?_ ?_<;>intro h<;>simp (disch:=omega) only [Sh.out h,go_sem,seval,↓reduceIte]
   ·have hk2:k<l.length:=Za
    have hI:QF (k:Int):=Za
    have hdl:=Jw k hI;refine ((dX n l c k hk2 hl hw (hlw _ (Zu hk2))).frozenE).useV fun e he=>Zd ?_;have hel:=he.len;refine Zl [1,2,6,7] (fun q:Nat×List Flt=> [(5,.sl 1 0 q.2.length q.2.length),(8,.p (.int .i64 q.1))]) (fun q=>Z8 n++ [.elems 2 (q.2.map eF)]) (fun q=>q.1<=e.length/\FR (pF 20) ((rng l.length 1 6=true/\ ∀j,j<k->UE n l j)/\q.1=0) (1+9*k+q.1) q.2) (fun q=>e.length-q.1) (0,m) ⟨Zb,hm.to Zb Zb⟩ (Weak.mk ?_) ?_
    ·simp (disch:=omega) only [Z8,go_sem,seval]
    ·clear hm hml;rintro ⟨j,m⟩ ⟨hj,hm⟩;simp only at hj hm;have hml:=hm.len;refine Aj ?_;refine Z0 ?_ ?_<;>intro h2
     ·have hj2:j<e.length:=Za
      refine ZF 9 mixed Zg Zg (Zd ?_);refine Zo (Aw k hI) (Zd ?_);exact ⟨(j+1,m++ [(nth e j,Bh k)]),⟨Za,(hm.yes (c:=False) Zb (by grind [pF])).to Za Zb⟩,Za,wk⟩
     ·have hjl:j=e.length:=Za
      subst hjl;exact ⟨(k+1,m),⟨Za,hm.to Za (by simp only [Zr,QS];rw [<- he.emp,List.eq_nil_iff_length_eq_zero])⟩,Za,wk⟩
   ·have hkn:k=l.length:=Za
    subst hkn;exact ⟨m,hm.to Za (by rw [typesOk]),1,by simp (disch:=omega) only [go_sem,seval]⟩
theorem Ga (n lo hi:Int):PC 101 [.p (.int .i64 n),.p (.int .i64 lo),.p (.int .i64 hi)] (.bool (rng n lo hi)):=by
 refine Zc Tryz.func101 rfl ZaX ?_;simp (disch:=omega) only [Tryz.f101,go_sem,seval];refine gT ?_ ?_<;>intro h<;>simp (disch:=omega) only [Sh.out h,go_sem,seval,↓reduceIte]
 all_goals (simp [rng];first | done | omega | (rw [Wz];simp;omega))
def loadOk (l:List Int) (d:Int):Bool:=decide ((l.length:Int)=d)&&l.all fun n=>rng n 0 1000
theorem dN (l:List Int) (c:Bool) (d:Int) (hl:l.length<=1048576):PC 100 [.p (.list c (l.map eI)),.p (.int .i64 d)] (.bool (loadOk l d)):=by
 refine Zc Tryz.func100 rfl ZaW ?_;simp (disch:=omega) only [Tryz.f100,go_sem,seval];refine cD ?_ ?_<;>intro h2<;>simp (disch:=omega) only [Sh.out h2,go_sem,seval]
 ·simp [loadOk,h2]
 ·simp only [Z1] at h2;subst h2;refine Zl [0] (fun k:Nat=> [(5,.p (.int .i64 k))]) (fun _=> []) (fun k=>k<=l.length/\ ∀j,j<k->rng (nth l j) 0 1000=true) (fun k=>l.length-k) 0 Zb (Weak.mk ?_) ?_
  ·simp (disch:=omega) only [go_sem,seval,↓reduceIte]
  ·rintro k ⟨hk,hno⟩;refine Zd ?_;refine cD ?_ ?_<;>intro h3<;>simp (disch:=omega) only [Sh.out h3,go_sem,seval,↓reduceIte]
   ·have hk2:k<l.length:=Za
    have hbad:rng (nth l k) 0 1000=false->loadOk l l.length=false:=fun h4=>by
     grind [Zu,loadOk]
    repeat' (first | (refine Un (fun hq=> ?_) (fun hq=> ?_)<;>(try simp only [Zq,Ya,Z1] at hq)<;>simp (disch:=omega) only [Sh.out hq,go_sem,seval]) | (refine gF ?_ ?_<;>intro hq<;>simp (disch:=omega) only [Sh.out hq,go_sem,seval,↓reduceIte]) | (refine cD ?_ ?_<;>intro hq<;>simp (disch:=omega) only [Sh.out hq,go_sem,seval,↓reduceIte]))
    all_goals first
     | (rw [hbad (by simp [rng];omega)])
     | exact ⟨k+1,⟨Za,Zr.2 ⟨hno,by simp [rng];omega⟩⟩,Za,wk⟩
   ·have:l.all (fun n=>rng n 0 1000)=true:=by
     rw [ZD];intro x hx;obtain ⟨j,hj,rfl⟩:=ZU.1 hx
     grind [Zi]
    simp [loadOk,this]
def stpOk (s:Stp):Bool:=decide ((s.place= -1/\s.opn=0/\s.cls=0/\s.serv=0)\/(0<=s.place/\0<=s.opn/\s.opn<=s.cls/\s.cls<=4096/\0<=s.serv/\s.serv<=4096))
def eV (s:Stp):Int:=if stpOk s=true then 0 else 2
theorem iW (s:Stp):PC 102 [.p (FV s)] (.int .i64 (eV s)):=by
 refine Zc Tryz.func102 rfl ZaY ?_;simp (disch:=omega) only [Tryz.f102,go_sem,seval]
 repeat' (first | (refine gT ?_ ?_<;>intro hq<;>simp (disch:=omega) only [Sh.out hq,go_sem,seval,↓reduceIte]) | (refine gF ?_ ?_<;>intro hq<;>simp (disch:=omega) only [Sh.out hq,go_sem,seval,↓reduceIte]) | (refine cD ?_ ?_<;>intro hq<;>simp (disch:=omega) only [Sh.out hq,go_sem,seval,↓reduceIte]))
 all_goals (simp only [eV,stpOk,Zq])
 all_goals first
  | (exfalso;omega)
  | (rw [if_pos Za])
  | (rw [if_neg Za])
def Qt (l:List Ord) (i:Nat):Bool:=(List.range i).all fun j=>decide ((nth l j).name≠(nth l i).name)
theorem K3 {l:List Ord} {i:Nat} :Qt l i=true↔ ∀j,j<i->(nth l j).name≠(nth l i).name:=by simp [Qt]
def VB (b:Bool) (e:Int):List Int:=if b=true then [] else [e]
theorem Qa (b:Bool) (e:Int):(VB b e).length<=1:=by grind [VB]
theorem QY {b:Bool} {e:Int} {m p:List Int} (h:m=p) (hb:b=true):m=p++VB b e:=by simp [VB,hb,h]
theorem UR {b:Bool} {e:Int} {m p:List Int} (h:m=p) (hb:b=false):m++ [e]=p++VB b e:=by simp [VB,hb,h]
def YO (t:Ord):AM.Obj:= .cells [.p (.str t.name),.p (.list t.load_c (t.load.map eI)),.p (.int .i64 t.pick.place),.p (.int .i64 t.pick.opn),.p (.int .i64 t.pick.cls),.p (.int .i64 t.pick.serv),.p (.int .i64 t.drp.place),.p (.int .i64 t.drp.opn),.p (.int .i64 t.drp.cls),.p (.int .i64 t.drp.serv),.p (.int .i64 t.skills),.p (.int .i64 t.penalty),.p (.int .i64 t.split),.p (.int .i64 t.last),.p (.int .i64 t.now),.p (.bool t.off)]
def FM (t:Ord):Bool:=decide (t.pick.place≠ -1)&&decide (t.drp.place≠ -1)
def argOk (t:Ord) (ty:Int):Bool:=rng t.penalty (-1) 1000000&&rng t.split 1 4&&decide (¬(1<t.split/\FM t=true)/\ -1<=t.last/\t.last<ty/\ -1<=t.now/\t.now<ty)
def Wt (np:Nat) (d ty:Int) (l:List Ord) (i:Nat):List Int:=VB (nameOk (nth l i).name) 5++VB (Qt l i) 6++VB (loadOk (nth l i).load d) 17++VB ((rng (nth l i).pick.place (-1) ((np:Int)-1)&&rng (nth l i).drp.place (-1) ((np:Int)-1))) 11++VB (decide (¬((nth l i).pick.place= -1/\(nth l i).drp.place= -1))) 19++VB ((stpOk (nth l i).pick&&stpOk (nth l i).drp)) 14++VB (rng (nth l i).skills 0 1073741823) 18++VB (argOk (nth l i) ty) 2
theorem CW (np:Nat) (d ty:Int) (l:List Ord) (i:Nat):(Wt np d ty l i).length<=8:=by
 grind [Qa,Wt,ZA]
theorem Bs {P Q:Prop} (h:Q) (e:Q->P:=by intro h;simp (disch:=omega) only [YO,go_sem,seval];exact h):P:=e h
theorem dY (np:Nat) (d ty:Int) (l:List Ord) (c:Bool) (i:Nat) (hi:i<l.length) (hl:l.length<=1048576) (hnp:np<=1048576) (ht:(nth l i).wf 1048576) :
  ACalls Tryz.prog 75 [.p (.int .i64 (np:Nat)),.p (.int .i64 d),.p (.int .i64 ty),.p (.list c (l.map eOrd)),.p (.int .i64 (i:Nat))] [] fun x H'=>x= .sl 0 0 (Wt np d ty l i).length (Wt np d ty l i).length/\H'= [.elems 1 ((Wt np d ty l i).map eI)]:=by
 suffices hh:ACalls Tryz.prog 75 [.p (.int .i64 (np:Nat)),.p (.int .i64 d),.p (.int .i64 ty),.p (.list c (l.map eOrd)),.p (.int .i64 (i:Nat))] [] fun x H'=> ∃m:List Int,m=Wt np d ty l i/\x= .sl 0 0 m.length m.length/\H'= [.elems 1 (m.map eI)] by
  grind
 refine ZI [3] Tryz.func75 rfl ZjT ?_;simp (disch:=omega) only [Tryz.f75,go_sem,seval];have hty:Wt np d ty l i=VB (nameOk (nth l i).name) 5++VB (Qt l i) 6++VB (loadOk (nth l i).load d) 17++VB ((rng (nth l i).pick.place (-1) ((np:Int)-1)&&rng (nth l i).drp.place (-1) ((np:Int)-1))) 11++VB (decide (¬((nth l i).pick.place= -1/\(nth l i).drp.place= -1))) 19++VB ((stpOk (nth l i).pick&&stpOk (nth l i).drp)) 14++VB (rng (nth l i).skills 0 1073741823) 18++VB (argOk (nth l i) ty) 2:=rfl
 have hleng: ∀m:List Int,∀p:List Int,m=p->p.length<=8->m.length<=8:=fun m p h1 h2=>by grind
 generalize hga:nth l i=t at ht hty ⊢;have hname:=ht.1;have hload:=ht.2.1;refine Zp (Weak.ofNil 11 1 (by simp (disch:=omega) only [go_sem,seval]) Zb (Weak.refl _ _ _)) ?_;refine ZM [0,1,2,3,4,12] (fun m:List Int=> [(11,.sl 1 0 m.length m.length)]) (fun m=> [YO t,.elems 1 (m.map eI)]) (fun m=>m=VB (nameOk t.name) 5) ?_ ?_
 ·refine Zd ?_;refine (Rb t.name hname).use (Zd ?_);refine cD ?_ ?_<;>intro h<;>simp (disch:=omega) only [Sh.out h,go_sem,seval,↓reduceIte]
  ·simp only [XN] at h;exact ⟨[5],by simp [VB,h],Weak.mk (by simp (disch:=omega) only [YO,go_sem,seval])⟩
  ·simp only [XR] at h;exact ⟨[],by simp [VB,h],Weak.mk (by simp (disch:=omega) only [YO,go_sem,seval])⟩
 ·skip
  intro m hm;refine Zh [5] _ _ _ _ (Bs ?_)
  have hml:m.length<=8:=by
   grind [Qa]
  refine ZM [0,1,2,12] (fun m:List Int=> [(11,.sl 1 0 m.length m.length)]) (fun m=> [YO t,.elems 1 (m.map eI)]) (fun m=>m=VB (nameOk t.name) 5++VB (Qt l i) 6) ?_ ?_
  ·refine Zd ?_;refine Zl [0,1,2,3,4,11,12] (fun k:Nat=> [(13,.p (.int .i64 k))]) (fun _=> [YO t,.elems 1 (m.map eI)]) (fun k=>k<=i/\ ∀j,j<k->(nth l j).name≠(nth l i).name) (fun k=>i-k) 0 Zb (Weak.mk ?_) ?_
   ·simp (disch:=omega) only [YO,go_sem,seval,↓reduceIte]
   ·rintro k ⟨hk,hno⟩;refine Bs ?_;refine cD ?_ ?_<;>intro h3<;>simp (disch:=omega) only [Sh.out h3,go_sem,seval,↓reduceIte]
    ·have hk2:k<l.length:=Za
     refine Xj (Zd ?_);refine Z0 ?_ ?_<;>intro h4
     ·exact ⟨m++ [6],UR hm (by grind [K3]),wk⟩
     ·exact ⟨k+1,⟨Za,Zr.2 ⟨hno,by grind⟩⟩,Za,wk⟩
    ·have hki:k=i:=Za
     subst hki;exact ⟨m,QY hm (K3.2 hno),wk⟩
  ·clear hm hml;intro m hm;refine Zh [10] _ _ _ _ (Bs ?_)
   have hml:m.length<=8:=by
    grind [Qa]
   refine ZM [0,2,12] (fun m:List Int=> [(11,.sl 1 0 m.length m.length)]) (fun m=> [YO t,.elems 1 (m.map eI)]) (fun m=>m=VB (nameOk t.name) 5++VB (Qt l i) 6++VB (loadOk t.load d) 17) ?_ ?_
   ·refine Zd ?_;refine (dN t.load t.load_c d hload).use (Zd ?_);refine cD ?_ ?_<;>intro h<;>simp (disch:=omega) only [Sh.out h,go_sem,seval,↓reduceIte]
    ·simp only [XN] at h;exact ⟨m++ [17],UR hm (h),Weak.mk (by simp (disch:=omega) only [YO,go_sem,seval])⟩
    ·simp only [XR] at h;exact ⟨m,QY hm (h),Weak.mk (by simp (disch:=omega) only [YO,go_sem,seval])⟩
   ·clear hm hml;intro m hm;refine Zh [12] _ _ _ _ (Bs ?_)
    have hml:m.length<=8:=by
     grind [ZA,Qa]
    refine ZM [2,12] (fun m:List Int=> [(11,.sl 1 0 m.length m.length)]) (fun m=> [YO t,.elems 1 (m.map eI)]) (fun m=>m=VB (nameOk t.name) 5++VB (Qt l i) 6++VB (loadOk t.load d) 17++VB ((rng t.pick.place (-1) ((np:Int)-1)&&rng t.drp.place (-1) ((np:Int)-1))) 11) ?_ ?_
    ·refine Zd ?_;refine (Ga t.pick.place (-1) ((np:Int)-1)).use (Zd ?_);refine Lr ?_ ?_<;>intro h
     ·simp only [XN] at h;exact ⟨m++ [11],UR hm (by simp [h]),Weak.mk (by simp (disch:=omega) only [YO,go_sem,seval])⟩
     ·simp only [XR] at h;refine (Ga t.drp.place (-1) ((np:Int)-1)).use (Zd ?_);refine Z0 ?_ ?_<;>intro h2
      ·simp only [XN] at h2;exact ⟨m++ [11],UR hm (by simp [h2]),Weak.mk (by simp (disch:=omega) only [YO,go_sem,seval])⟩
      ·simp only [XR] at h2;exact ⟨m,QY hm (by simp [h,h2]),Weak.mk (by simp (disch:=omega) only [YO,go_sem,seval])⟩
    ·clear hm hml;intro m hm;refine Zh [14] _ _ _ _ (Bs ?_)
     have hml:m.length<=8:=by
      grind [ZA,Qa]
     refine ZM [2,12] (fun m:List Int=> [(11,.sl 1 0 m.length m.length)]) (fun m=> [YO t,.elems 1 (m.map eI)]) (fun m=>m=VB (nameOk t.name) 5++VB (Qt l i) 6++VB (loadOk t.load d) 17++VB ((rng t.pick.place (-1) ((np:Int)-1)&&rng t.drp.place (-1) ((np:Int)-1))) 11++VB (decide (¬(t.pick.place= -1/\t.drp.place= -1))) 19) ?_ ?_
     ·refine Zd ?_
      repeat' (first | (refine gT ?_ ?_<;>intro hq<;>simp (disch:=omega) only [Sh.out hq,go_sem,seval]) | (refine Qi (fun hq=> ?_) (fun hq=> ?_)<;>(try simp only [Zq,Ya,Z1] at hq)<;>simp (disch:=omega) only [Sh.out hq,go_sem,seval]) | (refine cD ?_ ?_<;>intro hq<;>simp (disch:=omega) only [Sh.out hq,go_sem,seval]))
      all_goals first
       | exact ⟨m++ [19],UR hm (by first | (simp;done) | (simp;omega)),Weak.mk (by simp (disch:=omega) only [YO,go_sem,seval])⟩
       | exact ⟨m,QY hm (by first | (simp;done) | (simp;omega)),Weak.mk (by simp (disch:=omega) only [YO,go_sem,seval])⟩
     ·clear hm hml;intro m hm;refine Zh [16] _ _ _ _ (Bs ?_)
      have hml:m.length<=8:=by
       grind [ZA,Qa]
      refine ZM [2,12] (fun m:List Int=> [(11,.sl 1 0 m.length m.length)]) (fun m=> [YO t,.elems 1 (m.map eI)]) (fun m=>m=VB (nameOk t.name) 5++VB (Qt l i) 6++VB (loadOk t.load d) 17++VB ((rng t.pick.place (-1) ((np:Int)-1)&&rng t.drp.place (-1) ((np:Int)-1))) 11++VB (decide (¬(t.pick.place= -1/\t.drp.place= -1))) 19++VB ((stpOk t.pick&&stpOk t.drp)) 14) ?_ ?_
      ·refine Zd ?_;refine (iW t.pick).use (Zd ?_)
       cases h:stpOk t.pick with
       | false =>
        simp (disch:=omega) only [eV,h,go_sem,seval];exact ⟨m++ [14],UR hm (by simp []),Weak.mk (by simp (disch:=omega) only [YO,go_sem,seval])⟩
       | true =>
        simp (disch:=omega) only [eV,h,go_sem,seval];refine (iW t.drp).use (Zd ?_)
        cases h2:stpOk t.drp with
        | false =>
         simp (disch:=omega) only [eV,h2,go_sem,seval];exact ⟨m++ [14],UR hm (by simp []),Weak.mk (by simp (disch:=omega) only [YO,go_sem,seval])⟩
        | true =>
         simp (disch:=omega) only [eV,h2,go_sem,seval];exact ⟨m,QY hm (by simp []),Weak.mk (by simp (disch:=omega) only [YO,go_sem,seval])⟩
      ·clear hm hml;intro m hm;refine Zh [18] _ _ _ _ (Bs ?_)
       have hml:m.length<=8:=by
        grind [ZA,Qa]
       refine ZM [2,12] (fun m:List Int=> [(11,.sl 1 0 m.length m.length)]) (fun m=> [YO t,.elems 1 (m.map eI)]) (fun m=>m=VB (nameOk t.name) 5++VB (Qt l i) 6++VB (loadOk t.load d) 17++VB ((rng t.pick.place (-1) ((np:Int)-1)&&rng t.drp.place (-1) ((np:Int)-1))) 11++VB (decide (¬(t.pick.place= -1/\t.drp.place= -1))) 19++VB ((stpOk t.pick&&stpOk t.drp)) 14++VB (rng t.skills 0 1073741823) 18) ?_ ?_
       ·refine Zd ?_;refine (Ga t.skills 0 1073741823).use (Zd ?_);refine Z0 ?_ ?_<;>intro h
        ·simp only [XN] at h;exact ⟨m++ [18],UR hm (h),Weak.mk (by simp (disch:=omega) only [YO,go_sem,seval])⟩
        ·simp only [XR] at h;exact ⟨m,QY hm (h),Weak.mk (by simp (disch:=omega) only [YO,go_sem,seval])⟩
       ·clear hm hml;intro m hm;refine Zh [20] _ _ _ _ (Bs ?_)
        have hml:m.length<=8:=by
         grind [ZA,Qa]
        refine ZM [2,11,12] (fun b:Bool=> [(14,.p (.bool b))]) (fun _=> [YO t,.elems 1 (m.map eI)]) (fun b=>b=FM t) ?_ ?_
        ·refine Zd ?_
         repeat' (first | (refine Un (fun hq=> ?_) (fun hq=> ?_)<;>(try simp only [Zq,Ya,Z1] at hq)<;>simp (disch:=omega) only [Sh.out hq,go_sem,seval]) | (refine Qi (fun hq=> ?_) (fun hq=> ?_)<;>(try simp only [Zq,Ya,Z1] at hq)<;>simp (disch:=omega) only [Sh.out hq,go_sem,seval]) | (refine QK (fun hq=> ?_) (fun hq=> ?_)<;>(try simp only [Zq,Ya,Z1] at hq)<;>simp (disch:=omega) only [Sh.out hq,go_sem,seval]))
         all_goals refine ⟨FM t,rfl,Weak.mk ?_⟩
         all_goals (simp (disch:=omega) only [YO,go_sem,seval];simp [FM, *])
        ·rintro b hb;refine Zh [21] _ _ _ _ (Bs ?_);refine ZM [] (fun m:List Int=> [(11,.sl 1 0 m.length m.length)]) (fun m=> [YO t,.elems 1 (m.map eI)]) (fun m=>m=VB (nameOk t.name) 5++VB (Qt l i) 6++VB (loadOk t.load d) 17++VB ((rng t.pick.place (-1) ((np:Int)-1)&&rng t.drp.place (-1) ((np:Int)-1))) 11++VB (decide (¬(t.pick.place= -1/\t.drp.place= -1))) 19++VB ((stpOk t.pick&&stpOk t.drp)) 14++VB (rng t.skills 0 1073741823) 18++VB (argOk t ty) 2) ?_ ?_
         ·refine Zd ?_;refine (Ga t.penalty (-1) 1000000).use (Zd ?_);refine gF ?_ ?_<;>intro h<;>simp (disch:=omega) only [Sh.out h,go_sem,seval,↓reduceIte]
          ·simp only [XN] at h;exact ⟨m++ [2],UR hm (by simp [argOk,h]),Weak.mk (by simp (disch:=omega) only [YO,go_sem,seval])⟩
          ·simp only [XR] at h;refine (Ga t.split 1 4).use (Zd ?_);refine gF ?_ ?_<;>intro h2<;>simp (disch:=omega) only [Sh.out h2,go_sem,seval,↓reduceIte]
           ·simp only [XN] at h2;exact ⟨m++ [2],UR hm (by simp [argOk,h2]),Weak.mk (by simp (disch:=omega) only [YO,go_sem,seval])⟩
           ·simp only [XR] at h2
            cases b with
            | true =>
             repeat' (first | (refine gT ?_ ?_<;>intro hq<;>simp (disch:=omega) only [Sh.out hq,go_sem,seval,↓reduceIte]) | (refine gF ?_ ?_<;>intro hq<;>simp (disch:=omega) only [Sh.out hq,go_sem,seval,↓reduceIte]) | (refine cD ?_ ?_<;>intro hq<;>simp (disch:=omega) only [Sh.out hq,go_sem,seval,↓reduceIte]))
             all_goals first
              | exact ⟨m++ [2],UR hm (by rw [argOk,<- hb];first | (simp;done) | (simp;omega)),Weak.mk (by simp (disch:=omega) only [YO,go_sem,seval])⟩
              | exact ⟨m,QY hm (by grind [argOk]),Weak.mk (by simp (disch:=omega) only [YO,go_sem,seval])⟩
            | false =>
             repeat' (first | (refine gT ?_ ?_<;>intro hq<;>simp (disch:=omega) only [Sh.out hq,go_sem,seval,↓reduceIte]) | (refine gF ?_ ?_<;>intro hq<;>simp (disch:=omega) only [Sh.out hq,go_sem,seval,↓reduceIte]) | (refine cD ?_ ?_<;>intro hq<;>simp (disch:=omega) only [Sh.out hq,go_sem,seval,↓reduceIte]))
             all_goals first
              | exact ⟨m++ [2],UR hm (by rw [argOk,<- hb];first | (simp;done) | (simp;omega)),Weak.mk (by simp (disch:=omega) only [YO,go_sem,seval])⟩
              | exact ⟨m,QY hm (by rw [argOk,<- hb,h,h2];first | (simp;done) | (simp;omega)),Weak.mk (by simp (disch:=omega) only [YO,go_sem,seval])⟩
         ·clear hm hml;intro m hm;refine Zh [] _ _ _ _ (Bs ?_)
          have hml:m.length<=8:=by
           grind [ZA,Qa]
          exact ⟨m,by rw [hm,hty],1,by simp (disch:=omega) only [go_sem,seval]⟩
def X8 (np:Nat) (d ty:Int) (l:List Ord) (k:Nat):List Flt:=(if l.length<=10 then [] else [(4,[])])++(List.range k).flatMap fun i=>(Wt np d ty l i).map fun e=>(e,Bh i)
theorem CZ (np:Nat) (d ty:Int) (l:List Ord) (k:Nat):X8 np d ty l (k+1)=X8 np d ty l k++(Wt np d ty l k).map fun e=>(e,Bh k):=by
 simp [X8,Yh]
theorem QW (np:Nat) (d ty:Int) (l:List Ord): ∀k,(X8 np d ty l k).length<=1+8*k
 | 0=>by simp [X8];grind
 | k+1=>by
  have h1:=QW np d ty l k;have h2:=CW np d ty l k;rw [CZ];simp;omega
theorem ZaA (n:Net) (d ty:Int) (l:List Ord) (c:Bool) (hw:n.wf 1048576) (hl:l.length<=1048576) (hlw: ∀t∈l,t.wf 1048576) :
  ACalls Tryz.prog 40 [.p (Cj n),.p (.int .i64 d),.p (.int .i64 ty),.p (.list c (l.map eOrd))] [] fun x H'=>x= .sl 0 0 (X8 n.places.length d ty l l.length).length (X8 n.places.length d ty l l.length).length/\H'= [.elems 2 ((X8 n.places.length d ty l l.length).map eF)]:=by
 obtain ⟨w1,w2,w3,w4⟩:=hw
 suffices hh:ACalls Tryz.prog 40 [.p (Cj n),.p (.int .i64 d),.p (.int .i64 ty),.p (.list c (l.map eOrd))] [] fun x H'=> ∃m:List Flt,m=X8 n.places.length d ty l l.length/\x= .sl 0 0 m.length m.length/\H'= [.elems 2 (m.map eF)] by
  grind
 refine ZI [2] Tryz.func40 rfl Zjn ?_;simp (disch:=omega) only [Tryz.f40,go_sem,seval];refine Zp (Weak.ofNil 9 2 (by simp (disch:=omega) only [go_sem,seval]) Zb (Weak.refl _ _ _)) ?_;refine ZM [1,2,3,4] (fun m:List Flt=> [(9,.sl 1 0 m.length m.length)]) (fun m=>Z8 n++ [.elems 2 (m.map eF)]) (fun m=>m=X8 n.places.length d ty l 0) ?_ ?_
 ·refine Zd ?_;refine Z0 ?_ ?_<;>intro h
  ·exact ⟨[(4,[])],by rw [X8,if_neg Za];rfl,Weak.mk (by simp (disch:=omega) only [Z8,go_sem,seval])⟩
  ·exact ⟨[],by rw [X8,if_pos Za];rfl,Weak.mk (by simp (disch:=omega) only [Z8,go_sem,seval])⟩
 ·intro m hm;refine Zh [] _ _ _ _ (Aj ?_);refine Zl [1,2,3,4] (fun q:Nat×List Flt=> [(9,.sl 1 0 q.2.length q.2.length),(10,.p (.int .i64 q.1))]) (fun q=>Z8 n++ [.elems 2 (q.2.map eF)]) (fun q=>q.1<=l.length/\q.2=X8 n.places.length d ty l q.1) (fun q=>l.length-q.1) (0,m) ⟨Zb,hm⟩ (Weak.mk ?_) ?_
  ·simp (disch:=omega) only [Z8,go_sem,seval]
  ·clear hm;rintro ⟨k,m⟩ ⟨hk,hm⟩;simp only at hk hm;have hml:=QW n.places.length d ty l k;rw [<- hm] at hml;refine Aj ?_;refine cD ?_ ?_<;>intro h<;>simp (disch:=omega) only [Sh.out h,go_sem,seval,↓reduceIte]
   ·have hk2:k<l.length:=Za
    have hI:QF (k:Int):=Za
    have hrl:=CW n.places.length d ty l k;refine ((dY n.places.length d ty l c k hk2 hl w1 (hlw _ (Zu hk2))).frozen Zb).use (Zd ?_);generalize hre:Wt n.places.length d ty l k=e at hrl ⊢;refine Zl [1,2,3,4,10,11] (fun q:Nat×List Flt=> [(9,.sl 1 0 q.2.length q.2.length),(12,.p (.int .i64 q.1))]) (fun q=>Z8 n++ [.elems 2 (q.2.map eF)]) (fun q=>q.1<=e.length/\q.2=X8 n.places.length d ty l k++(e.take q.1).map fun e=>(e,Bh k)) (fun q=>e.length-q.1) (0,m) ⟨Zb,by simp [hm]⟩ (Weak.mk ?_) ?_
    ·simp (disch:=omega) only [Z8,go_sem,seval]
    ·clear hm hml;rintro ⟨j,m⟩ ⟨hj,hm⟩;simp only at hj hm;have hml:=QW n.places.length d ty l k
     have hml2:m.length<=1+8*k+8:=by grind
     refine Aj ?_;refine Z0 ?_ ?_<;>intro h2
     ·have hj2:j<e.length:=Za
      refine ZF 9 mixed Zg Zg (Zd ?_);refine Zo (Aw k hI) (Zd ?_);refine ⟨(j+1,m++ [(nth e j,Bh k)]),⟨Za,?_⟩,Za,wk⟩
      grind [X3,Zi]
     ·have hjl:j=e.length:=Za
      subst hjl;refine ⟨(k+1,m),⟨Za,?_⟩,Za,wk⟩
      grind [CZ]
   ·have hkn:k=l.length:=Za
    subst hkn;exact ⟨m,hm,1,by simp (disch:=omega) only [go_sem,seval]⟩
theorem eW {s:Stp} :stpOk s=true↔((s.place= -1/\s.opn=0/\s.cls=0/\s.serv=0)\/(0<=s.place/\0<=s.opn/\s.opn<=s.cls/\s.cls<=4096/\0<=s.serv/\s.serv<=4096)):=by simp [stpOk]
structure OrdOk (np:Nat) (d ty:Int) (l:List Ord) (i:Nat):Prop where
 name:nameOk (nth l i).name=true
 twin: ∀j,j<i->(nth l j).name≠(nth l i).name
 load:loadOk (nth l i).load d=true
 pick: -1<=(nth l i).pick.place/\(nth l i).pick.place<np
 drp: -1<=(nth l i).drp.place/\(nth l i).drp.place<np
 one: ¬((nth l i).pick.place= -1/\(nth l i).drp.place= -1)
 pstp:stpOk (nth l i).pick=true
 dstp:stpOk (nth l i).drp=true
 skills:0<=(nth l i).skills/\(nth l i).skills<=1073741823
 arg:argOk (nth l i) ty=true
theorem vO {b:Bool} {e:Int} :VB b e= []↔b=true:=by grind [VB]
theorem L9 {np:Nat} {d ty:Int} {l:List Ord} {i:Nat} :Wt np d ty l i= []↔OrdOk np d ty l i:=by
 simp only [Wt,Ub,vO,Zv,Zq,rng,K3]
 constructor
 ·rintro ⟨⟨⟨⟨⟨⟨⟨a1,a2⟩,a3⟩,a4⟩,a5⟩,a6⟩,a7⟩,a8⟩;exact ⟨a1,a2,a3,Za,Za,a5,a6.1,a6.2,a7,a8⟩
 ·intro h;obtain ⟨b1,b2⟩:=h.pick;obtain ⟨b3,b4⟩:=h.drp;exact ⟨⟨⟨⟨⟨⟨⟨h.name,h.twin⟩,h.load⟩,Za,Za⟩,h.one⟩,h.pstp,h.dstp⟩,h.skills⟩,h.arg⟩
def ordersOk (np:Nat) (d ty:Int) (l:List Ord):Prop:=l.length<=10/\ ∀i,i<l.length->OrdOk np d ty l i
theorem Oa {np:Nat} {d ty:Int} {l:List Ord} :X8 np d ty l l.length= []↔ordersOk np d ty l:=by
 simp_all [X8,L9,ordersOk]
theorem Ri {np:Nat} {d ty:Int} {l:List Ord} (hl:l.length<=1048576): ∀f∈X8 np d ty l l.length,pF 20 f:=by
 intro f hf;simp only [X8,Xe,X0,ZO,XH] at hf;rcases hf with hf | ⟨i,hi,e,he,rfl⟩
 ·grind [pF]
 ·exact Jw i Za
theorem Rz (n:Int) (h0:0<=n) (hn:n<=4611686018427387904):PC 103 [.p (.int .i64 n)] (.str (dec n.toNat)):=by
 refine Zc Tryz.func103 rfl ZaZ ?_;simp (disch:=omega) only [Tryz.f103,go_sem,seval];refine Zl [] (fun q:Int×List UInt8=> [(0,.p (.int .i64 q.1)),(3,.p (.str q.2))]) (fun _=> []) (fun q=>0<=q.1/\q.1<=n/\dec q.1.toNat++q.2=dec n.toNat) (fun q=>q.1.toNat) (n,[]) (by simp [h0]) (Weak.mk ?_) ?_
 ·simp (disch:=omega) only [go_sem,seval]
 ·rintro ⟨m,s⟩ ⟨hm,hmn,hs⟩;simp only at hm hmn hs;have hl:=Ss _ n.toNat (Nat.lt_succ_self _)
  have hl2:(dec m.toNat).length+s.length=(dec n.toNat).length:=by grind
  simp (disch:=first | omega | (simp only [ZE,ZJ,ZA,ZB,Xd,XG]<;>omega)) only [go_sem,seval];refine cD ?_ ?_<;>intro h<;>simp (disch:=omega) only [Sh.out h,go_sem,seval,↓reduceIte]
  ·simp (disch:=first | omega | (simp only [ZE,ZJ,ZA,ZB,Xd,XG]<;>omega)) only [go_sem,seval]
   have h2: ¬m.toNat<10:=Za
   have e1:(48+m%10).toNat=48+m.toNat%10:=Za
   have e2:(m / 10).toNat=m.toNat / 10:=Za
   refine ⟨(m / 10,UInt8.ofNat (48+m%10).toNat::s),⟨Za,Za,?_⟩,Za,Weak.mk ?_⟩
   ·simp only [e1,e2];rw [<- hs,dec.eq_def m.toNat,dif_neg h2];simp
   ·simp (disch:=omega) only [go_sem,seval]
  ·simp (disch:=first | omega | (simp only [ZE,ZJ,ZA,ZB,Xd,XG]<;>omega)) only [go_sem,seval]
   have h2:m.toNat<10:=Za
   have e1:(48+m).toNat=48+m.toNat:=Za
   rw [<- hs,dec.eq_def m.toNat,dif_pos h2,e1]
   rfl
def cQ (n:Int) (p:Int×Int):Bool:=decide (0<=p.1/\p.1<n)&&decide (0<=p.2/\p.2<n)&&decide (¬p.1=p.2)
def atW (word:List UInt8) (i:Nat):List UInt8:=word++ [32]++dec i
def SE (n:Int) (word:List UInt8) (sm:Int×Int->Int×Int->Bool) (l:List (Int×Int)) (i:Nat):List (Int×List UInt8) :=
 if cQ n (nth l i)=false then [(2,atW word i)] else if (l.take i).any (sm (nth l i)) then [(6,atW word i)] else []
def Ht (word:List UInt8) (l:List (Int×Int)):List (Int×List UInt8):=if 16<l.length then [(4,word)] else []
def Jz (n:Int) (word:List UInt8) (sm:Int×Int->Int×Int->Bool) (l:List (Int×Int)) (k:Nat):List (Int×List UInt8):=Ht word l++(List.range k).flatMap (SE n word sm l)
theorem HW (n word sm l k):Jz n word sm l (k+1)=Jz n word sm l k++SE n word sm l k:=by grind [Jz,Yh]
theorem HY (n word sm l):Jz n word sm l 0=Ht word l:=by simp [Jz]
theorem tF (n word sm l i):(SE n word sm l i).length<=1:=by grind [SE]
theorem Cq (n word sm l): ∀k,(Jz n word sm l k).length<=k+1:=by
 intro k
 induction k with
 | zero=>grind [HY,Ht]
 | succ k ih=>grind [HW,tF]
def chk (n:Int) (ap be:List (Int×Int)):List (Int×List UInt8) :=
 Jz n [97,112,97,114,116] (fun p q=>decide (p=q\/(p.1=q.2/\p.2=q.1))) ap ap.length++Jz n [98,101,102,111,114,101] (fun p q=>decide (p=q)) be be.length
def Fl (turned:Bool) (p q:Int×Int):Bool:=decide (q.1=p.1/\q.2=p.2)||(turned&&decide (q.1=p.2/\q.2=p.1))
theorem oX : Fl true=fun p q=>decide (p=q\/(p.1=q.2/\p.2=q.1)):=by
 funext p q
 simp only [Fl,VQ,ZdK]
 grind
theorem eE : Fl false=fun p q=>decide (p=q):=by
 funext p q
 simp only [Fl,QQ,Bool.or_false]
 grind
def tw (turned:Bool) (l:List (Int×Int)) (p:Int×Int) (j:Nat):Bool:=(l.take j).any (Fl turned p)
theorem wH (turned l p):tw turned l p 0=false:=by simp [tw]
theorem wG (turned:Bool) (l:List (Int×Int)) (p:Int×Int) (j:Nat) (h:j<l.length):tw turned l p (j+1)=(tw turned l p j||Fl turned p (nth l j)):=by
 rw [tw,tw,X3 h,List.any_append,Zi h];simp
theorem Nn (n:Int) (word:List UInt8) (l:List (Int×Int)) (c:Bool) (turned:Bool) (hw:word.length<=1000) (hl:l.length<=1048576) :
  ACalls Tryz.prog 76 [.p (.int .i64 n),.p (.list c (l.map eP)),.p (.str word),.p (.bool turned)] [] fun x H'=>x= .sl 0 0 (Jz n word (Fl turned) l l.length).length (Jz n word (Fl turned) l l.length).length/\H'= [.elems 2 ((Jz n word (Fl turned) l l.length).map eF)]:=by
 refine Hh [2] (fn:=Tryz.f76) Zb Tryz.func76 rfl ZjU ?_;simp (disch:=omega) only [Tryz.f76,go_sem,seval];refine Zp (Weak.ofNil 9 2 (by simp (disch:=omega) only [go_sem,seval]) Zb (Weak.refl _ _ _)) (Zd ?_);refine ZM [0,1,2,3] (fun _:Unit=> [(9,.sl 0 0 (Ht word l).length (Ht word l).length)]) (fun _=> [.elems 2 ((Ht word l).map eF)]) (fun _=>True) ?_ ?_
 ·refine Zd ?_;refine cD ?_ ?_<;>intro h<;>simp (disch:=omega) only [Sh.out h,go_sem,seval,↓reduceIte]
  ·refine ⟨(),Weak.mk ?_⟩
   have h2:16<l.length:=Za
   simp (disch:=omega) only [Ht,h2,go_sem,seval,↓reduceIte]
  ·refine ⟨(),Weak.mk ?_⟩
   have h2: ¬ 16<l.length:=Za
   simp (disch:=omega) only [Ht,h2,go_sem,seval,↓reduceIte]
 ·intro _ _;refine Zh [] _ _ _ _ (Zd ?_);refine Zl [0,1,2,3] (fun k:Nat=> [(9,.sl 0 0 (Jz n word (Fl turned) l k).length (Jz n word (Fl turned) l k).length),(10,.p (.int .i64 k))]) (fun k=> [.elems 2 ((Jz n word (Fl turned) l k).map eF)]) (fun k=>k<=l.length) (fun k=>l.length-k) 0 Zb (Weak.mk ?_) ?_
  ·simp (disch:=omega) only [HY,go_sem,seval,↓reduceIte]
  ·intro k hk;have hfl:=Cq n word (Fl turned) l k;have hdl:=Ss _ k (Nat.lt_succ_self _);refine Zd ?_;refine cD ?_ ?_<;>intro h<;>simp (disch:=omega) only [Sh.out h,go_sem,seval,↓reduceIte]
   ·have hk2:k<l.length:=Za
    simp (disch:=first | omega | (simp only [ZE,ZJ,ZA,ZB,Xd,XG]<;>omega)) only [go_sem,seval];refine (Rz (k:Int) Za Za).use ?_;simp (disch:=first | omega | (simp only [ZE,ZJ,ZA,ZB,Xd,XG]<;>omega)) only [go_sem,seval];have hs:=HW n word (Fl turned) l k
    have hbad:cQ n (nth l k)=false->SE n word (Fl turned) l k= [(2,word++ [32]++dec k)]:=fun e=>by simp [SE,e,atW]
    repeat' (first | (refine Un (fun hq=> ?_) (fun hq=> ?_)<;>(try simp only [Zq,Ya,Z1] at hq)<;>simp (disch:=omega) only [Sh.out hq,go_sem,seval]) | (refine gF ?_ ?_<;>intro hq<;>simp (disch:=omega) only [Sh.out hq,go_sem,seval,↓reduceIte]) | (refine cD ?_ ?_<;>intro hq<;>simp (disch:=omega) only [Sh.out hq,go_sem,seval,↓reduceIte]))
    all_goals try (
     have e:=hbad (by simp [cQ];omega)
     exact ⟨k+1,Za,Za,Weak.mk (by simp (disch:=omega) only [hs,e,go_sem,seval])⟩)
    have hok:cQ n (nth l k)=true:=by simp [cQ];omega
    refine Zl [0,1,2,3,9,10,11,12,13] (fun j:Nat=> [(14,.p (.bool (tw turned l (nth l k) j))),(15,.p (.int .i64 j))]) (fun _=> [.elems 2 ((Jz n word (Fl turned) l k).map eF)]) (fun j=>j<=k) (fun j=>k-j) 0 Zb (Weak.mk ?_) ?_
    ·simp (disch:=omega) only [wH,go_sem,seval,↓reduceIte]
    ·intro j hj;refine Zd ?_;refine cD ?_ ?_<;>intro h4<;>simp (disch:=omega) only [Sh.out h4,go_sem,seval,↓reduceIte]
     ·have hts:=wG turned l (nth l k) j Za;generalize tw turned l (nth l k) j=q at hts ⊢
      repeat' (first | (refine gT ?_ ?_<;>intro hq<;>simp (disch:=omega) only [Sh.out hq,go_sem,seval,↓reduceIte]) | (refine gF ?_ ?_<;>intro hq<;>simp (disch:=omega) only [Sh.out hq,go_sem,seval,↓reduceIte]) | (refine QK (fun hq=> ?_) (fun hq=> ?_)<;>(try simp only [Zq,Ya,Z1] at hq)<;>simp (disch:=omega) only [Sh.out hq,go_sem,seval]))
      all_goals refine ⟨j+1,Za,Za,Weak.mk ?_⟩
      all_goals clear hs hbad hfl hdl
      all_goals simp (disch:=omega) only [hts,go_sem,seval]
      all_goals simp [Fl, *]
      all_goals first | omega | (simp [Fl, *] at hts;exact hts)
     ·have hjk:j=k:=Za
      subst hjk;refine cD ?_ ?_<;>intro h5<;>simp (disch:=omega) only [Sh.out h5,go_sem,seval,↓reduceIte]
      ·have e:SE n word (Fl turned) l j= [(6,word++ [32]++dec j)]:=by
        have h6:(l.take j).any (Fl turned (nth l j))=true:=h5
        grind [SE,atW]
       exact ⟨j+1,Za,Za,Weak.mk (by simp (disch:=omega) only [hs,e,go_sem,seval])⟩
      ·have e:SE n word (Fl turned) l j= []:=by
        have h6:(l.take j).any (Fl turned (nth l j))=false:=h5
        simp_all [SE]
       exact ⟨j+1,Za,Za,Weak.mk (by simp (disch:=omega) only [hs,e,go_sem,seval])⟩
   ·have:k=l.length:=Za
    subst this;exact ⟨0,by simp (disch:=omega) only [go_sem,seval]⟩
theorem oD (n:Int) (ap be:List (Int×Int)) (c c':Bool) (hl:ap.length<=1048576) (hl2:be.length<=1048576) :
  ACalls Tryz.prog 42 [.p (.int .i64 n),.p (.list c (ap.map eP)),.p (.list c' (be.map eP))] [] fun x H'=>x= .sl 0 0 (chk n ap be).length (chk n ap be).length/\H'= [.elems 2 ((chk n ap be).map eF)]:=by
 refine UX (fn:=Tryz.f42) Zb Tryz.func42 rfl Zjp ?_;simp (disch:=omega) only [Tryz.f42,go_sem,seval];have h1:=Cq n [97,112,97,114,116] (Fl true) ap ap.length;have h2:=Cq n [98,101,102,111,114,101] (Fl false) be be.length;refine (Nn n _ ap c true (by decide) hl).useF (Zd ?_);refine (Nn n _ be c' false (by decide) hl2).useF (Zd ?_);refine ⟨0,?_⟩;rw [chk,<- oX,<- eE];simp (disch:=omega) only [go_sem,seval]
@[go_sem] theorem Ze9 {H:List AM.Obj} {β:Type} {S b o n:Nat} {xs:List PV} {g:β->PV} {m:List β} (hb:(n+m.length)*b<=140737488355328) (hb2:n+m.length<=140737488355328) :
  Uq H (some (S,b)) (.elems S xs) o n (some (m.map g))=if xs.length=n/\K5 S (m.map g)=true then some (.sl o 0 (n+m.length) (n+m.length),Gx H o (.elems S (xs++m.map g))) else none:=by
 simp_all [gP]
def und (word:List UInt8) (f:Flt):Flt:=(f.1,if f.2= [] then word else word++ [32]++f.2)
theorem Bd (word:List UInt8) (l:List Flt) (c:Bool) (hword:word.length<=100) (hl:l.length<=4194306000000) (hp: ∀f∈l,pF 100 f) :
  ACalls Tryz.prog 37 [.p (.str word),.p (.list c (l.map eF))] [] fun x H'=>x= .sl 0 0 (l.map (und word)).length (l.map (und word)).length/\H'= [.elems 2 ((l.map (und word)).map eF)]:=by
 suffices hh:ACalls Tryz.prog 37 [.p (.str word),.p (.list c (l.map eF))] [] fun x H'=> ∃m:List Flt,m=l.map (und word)/\x= .sl 0 0 m.length m.length/\H'= [.elems 2 (m.map eF)] by
  grind
 refine ZI [2] Tryz.func37 rfl Zjk ?_;simp (disch:=omega) only [Tryz.f37,go_sem,seval];refine Zp (Weak.ofNil 5 2 (by simp (disch:=omega) only [go_sem,seval]) Zb (Weak.refl _ _ _)) ?_;refine Zh [] _ _ _ _ (Zd ?_);refine Zl [0,1] (fun q:Nat×List Flt=> [(5,.sl 0 0 q.2.length q.2.length),(6,.p (.int .i64 q.1))]) (fun q=> [.elems 2 (q.2.map eF)]) (fun q=>q.1<=l.length/\q.2=(l.take q.1).map (und word)) (fun q=>l.length-q.1) (0,[]) ⟨Zb,Zb⟩ (Weak.mk ?_) ?_
 ·simp (disch:=omega) only [go_sem,seval,↓reduceIte]
 ·rintro ⟨k,m⟩ ⟨hk,hm⟩;simp only at hk hm
  have hml:m.length<=k:=by grind
  refine Zd ?_;refine cD ?_ ?_<;>intro h<;>simp (disch:=omega) only [Sh.out h,go_sem,seval,↓reduceIte]
  ·have hk2:k<l.length:=Za
   have hpk:=hp _ (Zu hk2);unfold pF at hpk
   have hnext: ∀f,f=und word (nth l k)->m++ [f]=(l.take (k+1)).map (und word):=fun f hf=>by
    grind [X3,Zi]
   refine cD ?_ ?_<;>intro h2<;>simp (disch:=omega) only [Sh.out h2,go_sem,seval,↓reduceIte]
   ·have h3: ¬(nth l k).2= []:=Za
    simp (disch:=first | omega | (simp only [ZE,ZJ,ZA,ZB,Xd,XG]<;>omega)) only [go_sem,seval,↓reduceIte];refine ⟨(k+1,m++ [((nth l k).1,word++ [32]++(nth l k).2)]),⟨Za,hnext _ (by simp [und,h3])⟩,Za,Weak.mk (by simp (disch:=first | omega | (simp only [ZE,ZJ,ZA,ZB,Xd,XG]<;>omega)) only [go_sem,seval])⟩
   ·have h3:(nth l k).2= []:=by grind
    refine ⟨(k+1,m++ [((nth l k).1,word)]),⟨Za,hnext _ (by simp [und,h3])⟩,Za,Weak.mk (by simp (disch:=first | omega | (simp only [ZE,ZJ,ZA,ZB,Xd,XG]<;>omega)) only [go_sem,seval])⟩
  ·have hkn:k=l.length:=Za
   subst hkn;exact ⟨m,by grind,0,by simp (disch:=omega) only [go_sem,seval]⟩
theorem Zax {n:Int} {ap be:List (Int×Int)} (ha:ap.length<=1048576) (hb:be.length<=1048576): ∀f∈chk n ap be,pF 100 f:=by
 have key: ∀(word:List UInt8) (sm:Int×Int->Int×Int->Bool) (l:List (Int×Int)),word.length<=6->l.length<=1048576-> ∀f∈Jz n word sm l l.length,pF 100 f:=fun word sm l hw hl f hf=>by
  simp only [Jz,Xe,X0,ZO] at hf;rcases hf with hf | ⟨i,hi,hf⟩
  ·grind [Ht,pF]
  ·have hd:=BC 6 i Za
   grind [pF,atW,SE]
 intro f hf;rcases Xe.1 hf with hf | hf
 ·grind
 grind
theorem sJ {n:Int} {ap be:List (Int×Int)} :(chk n ap be).length<=ap.length+be.length+2:=by
 grind [Cq,chk]
structure InstOk (x:Inst):Prop where
 net:netOk x.net
 types:typesOk x.net x.types
 orders:ordersOk x.net.places.length (dimsOf x.types) x.types.length x.orders
 rules:chk x.orders.length x.apart x.before= []
theorem FR.und {p:Flt->Prop} {C:Prop} {b:Nat} {l:List Flt} (h:FR p C b l) (word:List UInt8):FR (fun _=>True) C b (l.map (und word)) :=
 ⟨by simpa using h.len,by rw [List.map_eq_nil_iff];exact h.emp,fun _ _=>trivial⟩
theorem ZaB (x:Inst) (hw:x.wf 1048576):ACalls Tryz.prog 13 [.p (Zs x)] [] fun y H'=> ∃m:List Flt,FR (fun _=>True) (InstOk x) 4194400000000 m/\y= .sl 0 0 m.length m.length/\H'= [.elems 2 (m.map eF)]:=by
 obtain ⟨w1,w2,w3,w4,w5,w6,w7,w8,w9⟩:=hw;refine ZI [] Tryz.func13 rfl Zi3 ?_;simp (disch:=omega) only [Tryz.f13,go_sem,seval];have ol:=QW x.net.places.length (dimsOf x.types) x.types.length x.orders x.orders.length;have oat:=Ri (np:=x.net.places.length) (d:=dimsOf x.types) (ty:=x.types.length) w4;have onil:=Oa (np:=x.net.places.length) (d:=dimsOf x.types) (ty:=x.types.length) (l:=x.orders);have cl:=sJ (n:=x.orders.length) (ap:=x.apart) (be:=x.before);have cat:=Zax (n:=x.orders.length) w6 w8;refine ((Zay x.net w1).frozenE).useV fun m1 h1=> ?_
 refine Zd ?_;have h1p:=h1.pmono (q:=pF 100) fun f hf=>hf.mono Za;have u1:=Bd [110,101,116] m1 false Zb h1.len h1p.all;have f1:=h1.und [110,101,116];generalize m1.map (und [110,101,116])=q1 at u1 f1;have f1l:=f1.len;refine (u1).useF (Zd ?_);refine ((Zaz x.net x.types x.types_c w1 w2 w3).frozenE).useV fun m2 h2=>Zd ?_;have h2p:=h2.pmono (q:=pF 100) fun f hf=>hf.mono Za;have h2l:=h2.len;have u2:=(Bd [116,121,112,101,115] m2 false Zb Za h2p.all).frozen Zb;have f2:=h2.und [116,121,112,101,115]
 generalize m2.map (und [116,121,112,101,115])=q2 at u2 f2;have f2l:=f2.len;refine (u2).use (Zd ?_);have u3:=(Bd [111,114,100,101,114,115] (X8 x.net.places.length (dimsOf x.types) x.types.length x.orders x.orders.length) false Zb Za fun f hf=>(oat f hf).mono Za).frozen Zb;have f3:=(show FR (fun _=>True) (ordersOk x.net.places.length (dimsOf x.types) x.types.length x.orders) (1+8*x.orders.length) (X8 x.net.places.length (dimsOf x.types) x.types.length x.orders x.orders.length) from ⟨ol,onil,fun _ _=>trivial⟩).und [111,114,100,101,114,115]
 generalize (X8 x.net.places.length (dimsOf x.types) x.types.length x.orders x.orders.length).map (und [111,114,100,101,114,115])=q3 at u3 f3;have f3l:=f3.len;refine ZF 13 mixed Zg Zg (Zd ?_);refine Zo (Nh x.types x.types_c w2) (Zd ?_);refine Zo ((ZaA x.net (dimsOf x.types) x.types.length x.orders x.orders_c w1 w4 w5).frozen Zb) (Zd ?_);refine Zo (u3) (Zd ?_);have u4:=(Bd [114,117,108,101,115] (chk x.orders.length x.apart x.before) false Zb Za cat).frozen Zb
 have f4:=(show FR (fun _=>True) (chk x.orders.length x.apart x.before= []) (x.apart.length+x.before.length+2) (chk x.orders.length x.apart x.before) from ⟨cl,Iff.rfl,fun _ _=>trivial⟩).und [114,117,108,101,115];generalize (chk x.orders.length x.apart x.before).map (und [114,117,108,101,115])=q4 at u4 f4;have f4l:=f4.len;refine ((oD x.orders.length x.apart x.before x.apart_c x.before_c w6 w8).frozen Zb).use (Zd ?_);refine (u4).use (Zd ?_);refine ⟨q1++q2++q3++q4,((f1.app f2).app f3 |>.app f4).to Za ⟨fun ⟨⟨⟨a,b⟩,c⟩,d⟩=>⟨a,b,c,d⟩,fun h=>⟨⟨⟨h.net,h.types⟩,h.orders⟩,h.rules⟩⟩,1,?_⟩
 simp (disch:=omega) only [go_sem,seval]
def Zf (x:Inst):AM.Obj:= .cells [.p (.list x.net.places_c (x.net.places.map eS)),.p (.list x.net.arcs_c (x.net.arcs.map V1)),.p (.list x.types_c (x.types.map X7)),.p (.list x.orders_c (x.orders.map eOrd)),.p (.list x.apart_c (x.apart.map eP)),.p (.list x.before_c (x.before.map eP))]
def zSco : Sco:=⟨0,0,0,0⟩
theorem qU (a:Int):IntKind.i64.wrap ((BitVec.ofInt 64 a&&&BitVec.ofInt 64 1).toNat:Int)=a%2:=by
 grind [BitVec.toNat_ofInt,IntWalk.i64_in]
def sHas (s i:Int):Bool:=decide (0<=i)&&decide (i<=62)&&decide (s.fdiv (2^i.toNat)%2=1)
theorem Ep (s i:Int):PC 140 [.p (.int .i64 s),.p (.int .i64 i)] (.bool (sHas s i)):=by
 refine Zc Tryz.func140 rfl Zbk ?_;simp (disch:=omega) only [Tryz.f140,go_sem,seval];refine gT ?_ ?_<;>intro h<;>simp (disch:=omega) only [Sh.out h,go_sem,seval,↓reduceIte]
 ·refine gT ?_ ?_<;>intro h1<;>simp (disch:=omega) only [Sh.out h1,go_sem,seval,↓reduceIte]
  ·have:min i.toNat 64=i.toNat:=Za
   rw [this]
   erw [qU]
   simp [sHas,h,h1]
  grind [sHas]
 ·simp [sHas,h]
def X6 (s:Int) (k:Nat):List Int:=((List.range k).filter fun (i:Nat)=>sHas s (i:Int)).map fun (i:Nat)=>(i:Int)
theorem cF (s:Int):X6 s 0= []:=by simp [X6]
theorem NU {s:Int} {k:Nat} (h:sHas s (k:Int)=true):X6 s (k+1)=X6 s k++ [(k:Int)]:=by grind [X6,Yh]
theorem S7 {s:Int} {k:Nat} (h:sHas s (k:Int)=false):X6 s (k+1)=X6 s k:=by grind [X6,Yh]
theorem CO (s:Int) (k:Nat):(X6 s k).length<=k:=by
 grind [X6]
theorem DP (s:Int):ACalls Tryz.prog 131 [.p (.int .i64 s)] [] fun x H'=>x= .sl 0 0 (X6 s 63).length (X6 s 63).length/\H'= [.elems 1 ((X6 s 63).map eI)]:=by
 refine UX (fn:=Tryz.f131) Zb Tryz.func131 rfl Zbd ?_;simp (disch:=omega) only [Tryz.f131,go_sem,seval];refine Zl [0] (fun k:Nat=> [(3,.sl 0 0 (X6 s k).length (X6 s k).length),(5,.p (.int .i64 k))]) (fun k=> [.elems 1 ((X6 s k).map eI)]) (fun k=>k<=63) (fun k=>63-k) 0 Zb (Weak.ofNil 3 1 (by simp (disch:=omega) only [go_sem,seval]) Zb (Weak.mk ?_)) ?_
 ·simp (disch:=omega) only [cF,go_sem,seval,↓reduceIte]
 ·intro k hk;have hl:=CO s k;refine Zd ?_;refine cD ?_ ?_<;>intro h<;>simp (disch:=omega) only [Sh.out h,go_sem,seval,↓reduceIte]
  ·refine (Ep s k).use (Zd ?_);refine cD ?_ ?_<;>intro h2<;>simp (disch:=omega) only [Sh.out h2,go_sem,seval,↓reduceIte]
   ·refine ⟨k+1,Za,Za,Weak.mk ?_⟩;simp (disch:=omega) only [NU h2,go_sem,seval]
   ·exact ⟨k+1,Za,Za,Weak.mk (by simp (disch:=omega) only [S7 h2,go_sem,seval])⟩
  ·have:k=63:=Za
   subst this;exact ⟨0,by simp (disch:=omega) only [go_sem,seval]⟩
def eN (n:Nat):PV:= .int .i64 (n:Int)
@[go_sem] theorem Zqy (n:Nat):eN n= .int .i64 (n:Int):=Zm rfl rfl
theorem iN (n:Nat) (be:List (Int×Int)) (c:Bool) (hn:n<=60) (hl:be.length<=1048576) (hv:Val n be) :
  ACalls Tryz.prog 162 [.p (.int .i64 (n:Int)),.p (.list c (be.map eP))] [] fun x H'=>x= .sl 0 0 n n/\H'= [.elems 1 ((Ky n be).map eN)]:=by
 refine UX (fn:=Tryz.f162) (by simpa using (FP hv).len) Tryz.func162 rfl ZbA ?_;simp (disch:=omega) only [Tryz.f162,go_sem,seval];have hp60:pw n<=pw 62:=KD Za;have h62:=GD;refine Zl [0,1] (fun q:List Nat×Bool=> [(5,.sl 0 0 n n),(6,.p (.bool q.2))]) (fun q=> [.elems 1 (q.1.map eN)]) (fun q=>Snd n be q.1/\(q.2=false->tot (Fh q.1 be)=tot q.1)) (fun q=>2*(n*pw n-tot q.1)+(if q.2 then 1 else 0)) (List.replicate n 0,true) ⟨Snd.zero n be,Zb⟩ (Weak.mk ?_) ?_
 ·simp (disch:=omega) only [AH,go_sem,seval,↓reduceIte]
 ·rintro ⟨out,more⟩ ⟨hs,hm⟩;simp only at hs hm;refine Zd ?_;refine cD ?_ ?_<;>intro h<;>simp (disch:=omega) only [Sh.out h,go_sem,seval,↓reduceIte]
  ·have hrs: ∀i,Snd n be (Fh out (be.take i)):=fun i=>hs.rnd hv _ fun p hp=>Km hp
   have hsuc: ∀i,i<be.length->Fh out (be.take (i+1))=EF (Fh out (be.take i)) (nth be i):=fun i hi=>by
    rw [X3 hi,Rk,<- Zi hi];rfl
   refine Zl [0,1,16,17] (fun i:Nat=> [(5,.sl 0 0 n n),(6,.p (.bool (decide (tot out<tot (Fh out (be.take i)))))),(18,.p (.int .i64 i))]) (fun i=> [.elems 1 ((Fh out (be.take i)).map eN)]) (fun i=>i<=be.length) (fun i=>be.length-i) 0 Zb (Weak.mk ?_) ?_
   ·simp (disch:=omega) only [Fh,Jj,UQ,go_sem,seval];simp
   ·intro i hi;have hsi:=hrs i;generalize hgo:Fh out (be.take i)=o at hsi ⊢;have hlo:=hsi.len;refine Zd ?_;refine cD ?_ ?_<;>intro h2<;>simp (disch:=omega) only [Sh.out h2,go_sem,seval,↓reduceIte]
    ·have hib:i<be.length:=Za
     have hvi:=hv (nth be i) (by grind [Zi])
     have g1: ¬(nth be i).1<0:=Za
     have g2: ¬(nth be i).2<0:=Za
     have g3: ¬(n:Int)<=(nth be i).1:=Za
     have g4: ¬(n:Int)<=(nth be i).2:=Za
     have g5:(nth be i).1.toNat<n:=Za
     have g6:(nth be i).2.toNat<n:=Za
     have b1:=hsi.lt _ g5;have b2:=hsi.lt _ g6;have b3:nth o (nth be i).2.toNat|||nth o (nth be i).1.toNat<pw n:=Ji b2 b1;have b4:pw (nth be i).1.toNat<=pw 62:=KD Za;have hst:=Sq o (nth be i) Za;have hnx:=hsuc i hib;rw [hgo] at hnx;refine FG mixed Zg ?_;simp (disch:=omega) only [hlo,g1,g2,g3,g4,go_sem,seval];refine FG mixed Zg ?_;simp (disch:=first | omega | (simp only [ZE,ZJ,ZA,ZB,Xd,XG]<;>omega)) only [hlo,g5,g6,VJ,go_sem,seval,↓reduceIte]
     have htm:tot out<=tot o:=by
      grind [C2]
     have hsv:o.set (nth be i).2.toNat (nth o (nth be i).2.toNat|||nth o (nth be i).1.toNat|||pw (nth be i).1.toNat)=EF o (nth be i):=rfl;refine cD ?_ ?_<;>intro h3<;>simp (disch:=omega) only [Sh.out h3,go_sem,seval,↓reduceIte]
     ·have hne: ¬EF o (nth be i)=o:=fun e=>by
       apply h3
       have e2:nth (EF o (nth be i)) (nth be i).2.toNat=nth o (nth be i).2.toNat:=by rw [e]
       rw [EF,Fe _ _ _ _ Za] at e2
       grind
      have hlt:tot out<tot (EF o (nth be i)):=by
       grind
      simp (disch:=first | omega | (simp only [ZE,ZJ,ZA,ZB,Xd,XG]<;>omega)) only [go_sem,seval,↓reduceIte];refine ⟨i+1,Za,Za,Weak.mk ?_⟩;simp (disch:=omega) only [hnx,hlt,go_sem,seval];rw [<- hsv,Vk]
      rfl
     ·have heq:EF o (nth be i)=o:=by
       have e:nth o (nth be i).2.toNat|||nth o (nth be i).1.toNat|||pw (nth be i).1.toNat=nth o (nth be i).2.toNat:=Za
       rw [<- hsv,e];apply Uc Zb
       simp_all [Zi]
      refine ⟨i+1,Za,Za,Weak.mk ?_⟩;simp (disch:=omega) only [hnx,heq,go_sem,seval]
    ·have hi2:i=be.length:=Za
     subst hi2;rw [X1] at hgo;subst hgo;have hpt:=C2 hv be out (fun _ h=>h) hs;have hbd:=hsi.bound;refine ⟨(Fh out be,decide (tot out<tot (Fh out be))),⟨hsi,fun e=> ?_⟩,?_,Weak.mk ?_⟩
     ·grind
     ·grind
     ·simp (disch:=omega) only [go_sem,seval]
  ·refine ⟨0,?_⟩;have:out=Ky n be:=(iX hv (hs.clo hv (hm h))).symm;rw [this];simp (disch:=omega) only [go_sem,seval]
def hv (s k:Nat):Nat:=s / pw k
theorem SN (s:Nat):hv s 0=s:=by simp [hv,pw]
theorem SM (s k:Nat):hv s (k+1)=hv s k / 2:=by grind [hv,Fj,Nat.div_div_eq_div_mul]
theorem xV (s k:Nat):hv s k<=s:=Nat.div_le_self _ _
theorem kW (s k:Nat):s.testBit k=decide (hv s k%2=1):=by
 rw [Nat.testBit_eq_decide_div_mod_eq]
 rfl
theorem WV (s i:Nat) (hi:i<=62):sHas (s:Int) (i:Int)=s.testBit i:=by
 rw [kW,hv]
 have h1:(0:Int)<=i:=Za
 have h2:(i:Int)<=62:=Za
 simp only [sHas,h1,h2,W2,VQ,XD]
 have e:((s:Int)).fdiv (2^i)=((s / pw i:Nat):Int):=by
  grind [pw]
 grind
theorem VG {α:Type} [Inhabited α] {l:List α} {f:α->Bool} {k:Nat} (h:k<l.length) (hf:f (nth l k)=true):l.any f=true:=by
 grind [Zi]
theorem Q6 {α:Type} [Inhabited α] {l:List α} {f:α->Bool} (h: ∀j,j<l.length->f (nth l j)=false):l.any f=false:=by
 rw [Vc];intro x hx;obtain ⟨j,hj,rfl⟩:=ZU.1 hx
 grind [Zi]
theorem Wx {p:Nat->Prop} {k:Nat} (h: ∀j,j<k->p j) (hk:p k): ∀j,j<k+1->p j:=fun j hj=>by
 grind
theorem Zko {s:Int} {k:Nat} {x:Int} (h:x∈X6 s k):0<=x/\x<k:=by
 simp only [X6,XH,Jk,ZO] at h;omega
noncomputable def WC (os:List Ord) (ap be:List (Int×Int)) (s:Int):Int :=
 if s<0 then 2
 else if (X6 s 63).any (fun i=>decide ((os.length:Int)<=i)) then 2
 else if (X6 s 63).any (fun i=>(nth os i.toNat).off) then 9
 else if ap.any (fun p=>sHas s p.1&&sHas s p.2) then 20
 else if be.any (fun p=>sHas s p.2&& !sHas s p.1) then 21
 else if (X6 s 63).any (fun i=>sHas ((nth (Ky os.length be) i.toNat:Nat):Int) i) then 21
 else 0
theorem YV {P Q:Prop} (h:Q) (e:Q->P:=by intro h;simp (disch:=omega) only [Zf,go_sem,seval];exact h):P:=e h
theorem T2 (net:Net) (tyc:Bool) (tys:List Typ) (c1 c2 c3:Bool) (os:List Ord) (ap be:List (Int×Int)) (s:Int) (hn:os.length<=60) (hla:ap.length<=1048576) (hl:be.length<=1048576) (hv:Val os.length be) :
  PC 130 [.p (Zs ⟨net,tyc,tys,c1,os,c2,ap,c3,be⟩),.p (.int .i64 s)] (.int .i64 (WC os ap be s)):=by
 have hc:=FP hv;have hlen:=hc.len;have hm:=CO s 63;refine Zc Tryz.func130 rfl Zbc ?_;simp (disch:=omega) only [Tryz.f130,go_sem,seval];refine cD ?_ ?_<;>intro hs0<;>simp (disch:=omega) only [Sh.out hs0,go_sem,seval]
 ·simp [WC,hs0]
 ·refine ((DP s).frozen Zb).use (Zd ?_);generalize hgm:X6 s 63=m at hm ⊢
  have hnn: ∀k,k<m.length->0<=nth m k/\nth m k<63:=fun k hk=>by
   grind [X6,Zi,Ke]
  have e0: ¬s<0:=hs0;refine Zl [1,2,5,21,22] (fun k:Nat=> [(23,.p (.int .i64 k))]) (fun _=> [Zf ⟨net,tyc,tys,c1,os,c2,ap,c3,be⟩]) (fun k=>k<=m.length/\ ∀j,j<k->decide ((os.length:Int)<=nth m j)=false) (fun k=>m.length-k) 0 Zb (Weak.mk ?_) ?_
  ·simp (disch:=omega) only [Zf,go_sem,seval]
  ·rintro k ⟨hk,hno⟩;refine YV ?_;refine cD ?_ ?_<;>intro h<;>simp (disch:=omega) only [Sh.out h,go_sem,seval,↓reduceIte]
   ·have hk2:k<m.length:=Za
    refine Z0 ?_ ?_<;>intro h4
    ·grind [VG,WC]
    ·exact ⟨k+1,⟨Za,Wx hno (by simp [h4])⟩,Za,wk⟩
   ·have hkm:k=m.length:=Za
    subst hkm;have e1:m.any (fun i=>decide ((os.length:Int)<=i))=false:=Q6 hno
    have hin: ∀j,j<m.length->(nth m j).toNat<os.length:=fun j hj=>by
     grind
    clear hno hk h;refine Zl [1,2,5,33,34] (fun k:Nat=> [(35,.p (.int .i64 k))]) (fun _=> [Zf ⟨net,tyc,tys,c1,os,c2,ap,c3,be⟩]) (fun k=>k<=m.length/\ ∀j,j<k->(nth os (nth m j).toNat).off=false) (fun k=>m.length-k) 0 Zb (Weak.mk ?_) ?_
    ·simp (disch:=omega) only [Zf,go_sem,seval]
    ·rintro k ⟨hk,hno⟩;refine YV ?_;refine cD ?_ ?_<;>intro h<;>simp (disch:=omega) only [Sh.out h,go_sem,seval,↓reduceIte]
     ·have hk2:k<m.length:=Za
      have g1:=hin k hk2;have g2:=hnn k hk2;refine Zd ?_;refine Z0 ?_ ?_<;>intro h4
      ·grind [VG,WC]
      ·exact ⟨k+1,⟨Za,Wx hno h4⟩,Za,wk⟩
     ·have hkm:k=m.length:=Za
      subst hkm;have e2:m.any (fun i=>(nth os i.toNat).off)=false:=Q6 hno;clear hno hk h;refine Zl [1,2,5,47,48] (fun k:Nat=> [(49,.p (.int .i64 k))]) (fun _=> [Zf ⟨net,tyc,tys,c1,os,c2,ap,c3,be⟩]) (fun k=>k<=ap.length/\ ∀j,j<k->(sHas s (nth ap j).1&&sHas s (nth ap j).2)=false) (fun k=>ap.length-k) 0 Zb (Weak.mk ?_) ?_
      ·simp (disch:=omega) only [Zf,go_sem,seval]
      ·rintro k ⟨hk,hno⟩;refine YV ?_;refine cD ?_ ?_<;>intro h<;>simp (disch:=omega) only [Sh.out h,go_sem,seval,↓reduceIte]
       ·have hk2:k<ap.length:=Za
        refine (Ep s (nth ap k).1).use (Zd ?_);refine Jv ?_ ?_<;>intro h5
        ·refine (Ep s (nth ap k).2).use (Zd ?_);refine Z0 ?_ ?_<;>intro h6
         ·grind [VG,WC]
         ·exact ⟨k+1,⟨Za,Wx hno (by simp [h5,h6])⟩,Za,wk⟩
        ·exact ⟨k+1,⟨Za,Wx hno (by simp [h5])⟩,Za,wk⟩
       ·have hkm:k=ap.length:=Za
        subst hkm;have e3:ap.any (fun p=>sHas s p.1&&sHas s p.2)=false:=Q6 hno;clear hno hk h;refine Zl [1,2,5,65,66] (fun k:Nat=> [(67,.p (.int .i64 k))]) (fun _=> [Zf ⟨net,tyc,tys,c1,os,c2,ap,c3,be⟩]) (fun k=>k<=be.length/\ ∀j,j<k->(sHas s (nth be j).2&& !sHas s (nth be j).1)=false) (fun k=>be.length-k) 0 Zb (Weak.mk ?_) ?_
        ·simp (disch:=omega) only [Zf,go_sem,seval]
        ·rintro k ⟨hk,hno⟩;refine YV ?_;refine cD ?_ ?_<;>intro h<;>simp (disch:=omega) only [Sh.out h,go_sem,seval,↓reduceIte]
         ·have hk2:k<be.length:=Za
          refine (Ep s (nth be k).2).use (Zd ?_);refine Jv ?_ ?_<;>intro h5
          ·refine (Ep s (nth be k).1).use (Zd ?_);refine Z0 ?_ ?_<;>intro h6
           ·grind [VG,WC]
           ·exact ⟨k+1,⟨Za,Wx hno (by simp [h5,h6])⟩,Za,wk⟩
          ·exact ⟨k+1,⟨Za,Wx hno (by simp [h5])⟩,Za,wk⟩
         ·have hkm:k=be.length:=Za
          subst hkm;have e4:be.any (fun p=>sHas s p.2&& !sHas s p.1)=false:=Q6 hno;clear hno hk h;refine ((iN os.length be c3 hn hl hv).frozen (by grind)).use (Zd ?_);refine Zl [5,14,89,90] (fun k:Nat=> [(91,.p (.int .i64 k))]) (fun _=> [Zf ⟨net,tyc,tys,c1,os,c2,ap,c3,be⟩]) (fun k=>k<=m.length/\ ∀j,j<k->sHas ((nth (Ky os.length be) (nth m j).toNat:Nat):Int) (nth m j)=false) (fun k=>m.length-k) 0 Zb (Weak.mk ?_) ?_
          ·simp (disch:=omega) only [Zf,go_sem,seval]
          ·rintro k ⟨hk,hno⟩;refine YV ?_;refine cD ?_ ?_<;>intro h<;>simp (disch:=omega) only [Sh.out h,go_sem,seval,↓reduceIte]
           ·have hk2:k<m.length:=Za
            have g1:=hin k hk2;have g2:=hnn k hk2;refine Zd ?_;refine (Ep ((nth (Ky os.length be) (nth m k).toNat:Nat):Int) (nth m k)).use (Zd ?_);refine Z0 ?_ ?_<;>intro h6
            ·grind [VG,WC]
            ·exact ⟨k+1,⟨Za,Wx hno h6⟩,Za,wk⟩
           grind [Ky,Q6,WC]
deriving instance DecidableEq for Vis
theorem Ef {v w:Vis} :v=w↔v.order=w.order/\v.drp=w.drp:=by cases v;cases w;simp
def HR (f:Vis->Bool) (l:List Vis):Int:=match l.findIdx? f with | some i=>(i:Int) | none=> -1
def vIx (l:List Vis) (v:Vis):Int:=HR (fun w=>decide (v=w)) l
theorem Lw {f:Vis->Bool} {l:List Vis} {k:Nat} (hk:k<l.length) (h:f (nth l k)=true) (hno: ∀j,j<k->f (nth l j)=false):HR f l=(k:Int):=by
 have:l.findIdx? f=some k:=by
  grind [V9,Zi]
 simp [HR,this]
theorem PU {f:Vis->Bool} {l:List Vis} (hno: ∀j,j<l.length->f (nth l j)=false):HR f l= -1:=by
 have:l.findIdx? f=none:=by
  rw [EY];intro x hx;obtain ⟨j,hj,rfl⟩:=ZU.1 hx
  grind [Zi]
 simp [HR,this]
theorem PS {f:Vis->Bool} {l:List Vis} :decide (0<=HR f l)=l.any f:=by
 grind [HR]
theorem jS {f:Vis->Bool} {l:List Vis} :HR f l<l.length/\ -1<=HR f l:=by
 grind [HR,V9]
theorem SO (l:List Vis) (c:Bool) (v:Vis) (hl:l.length<=1048576):PC 252 [.p (.list c (l.map Xa)),.p (Xa v)] (.int .i64 (vIx l v)):=by
 refine Zc Tryz.func252 rfl ZcJ ?_;simp (disch:=omega) only [Tryz.f252,go_sem,seval];refine Zl [0,3,7] (fun k:Nat=> [(8,.p (.int .i64 k))]) (fun _=> [.cells [.p (.int .i64 v.order),.p (.bool v.drp)]]) (fun k=>k<=l.length/\ ∀j,j<k->decide (v=nth l j)=false) (fun k=>l.length-k) 0 Zb (Weak.mk ?_) ?_
 ·simp (disch:=omega) only [go_sem,seval,↓reduceIte]
 ·rintro k ⟨hk,hno⟩;refine Zd ?_;refine cD ?_ ?_<;>intro h<;>simp (disch:=omega) only [Sh.out h,go_sem,seval,↓reduceIte]
  ·have hk2:k<l.length:=Za
   refine Xj (Zd ?_);refine cD ?_ ?_<;>intro h2<;>simp (disch:=omega) only [Sh.out h2,go_sem,seval,↓reduceIte]
   ·grind [Ef,vIx,Lw]
   ·have: ¬v=nth l k:=by grind
    exact ⟨k+1,⟨Za,Zr.2 ⟨hno,by grind⟩⟩,Za,wk⟩
  grind [vIx,PU]
theorem C3 (l:List Vis) (c:Bool) (v:Vis) (hl:l.length<=1048576):PC 218 [.p (.list c (l.map Xa)),.p (Xa v)] (.int .i64 (vIx l v)):=by
 refine Zc Tryz.func218 rfl Zcd ?_;simp (disch:=omega) only [Tryz.f218,go_sem,seval];refine (SO l c v hl).use ?_;simp (disch:=omega) only [go_sem,seval]
theorem Lt (l:List Vis) (c:Bool) (v:Vis) (hl:l.length<=1048576):PC 259 [.p (.list c (l.map Xa)),.p (Xa v)] (.bool (decide (0<=vIx l v))):=by
 refine Zc Tryz.func259 rfl ZcQ ?_;simp (disch:=omega) only [Tryz.f259,go_sem,seval];refine (SO l c v hl).use ?_;simp (disch:=omega) only [go_sem,seval]
theorem wD (l:List Ord) (c:Bool) (n:Int) (hl:l.length<=1048576):PC 163 [.p (.list c (l.map eOrd)),.p (.int .i64 n)] (.bool (decide (0<=n/\n<l.length))):=by
 refine Zc Tryz.func163 rfl lD ?_;simp (disch:=omega) only [Tryz.f163,go_sem,seval];refine gT ?_ ?_<;>intro h<;>simp (disch:=omega) only [Sh.out h,go_sem,seval,↓reduceIte]
 all_goals (try simp [h])
def ZV (l:List Ord) (i:Nat):List Vis:=(if 0<=(nth l i).pick.place then [⟨i,false⟩] else [])++(if 0<=(nth l i).drp.place then [⟨i,true⟩] else [])
theorem WY (l:List Ord) (i:Nat):(ZV l i).length<=2:=by grind [ZV]
theorem Yk {l:List Ord} {i:Nat} {v:Vis} (h:v∈ZV l i):v.order=i:=by
 grind [ZV]
theorem RU (l:List Ord) (c:Bool) (i:Nat) (hi:i<l.length) (hl:l.length<=1048576):ACalls Tryz.prog 132 [.p (.list c (l.map eOrd)),.p (.int .i64 (i:Nat))] [] fun x H'=>x= .sl 0 0 (ZV l i).length (ZV l i).length/\H'= [.elems 2 ((ZV l i).map Xa)]:=by
 suffices hh:ACalls Tryz.prog 132 [.p (.list c (l.map eOrd)),.p (.int .i64 (i:Nat))] [] fun x H'=> ∃m:List Vis,m=ZV l i/\x= .sl 0 0 m.length m.length/\H'= [.elems 2 (m.map Xa)] by
  grind
 refine ZI [2] Tryz.func132 rfl Zbe ?_;simp (disch:=omega) only [Tryz.f132,go_sem,seval];refine Zp (Weak.ofNil 5 2 (by simp (disch:=omega) only [go_sem,seval]) Zb (Weak.refl _ _ _)) ?_;refine Zh [4] _ _ _ _ (Zd ?_);refine (wD l c i hl).use (Zd ?_)
 have h0:(0:Int)<=(i:Int)/\(i:Int)<(l.length:Int):=Za
 simp (disch:=omega) only [h0,go_sem,seval];refine ZM [0,1] (fun m:List Vis=> [(5,.sl 0 0 m.length m.length)]) (fun m=> [.elems 2 (m.map Xa)]) (fun m=>m=(if 0<=(nth l i).pick.place then [⟨i,false⟩] else [])) ?_ ?_
 ·refine Zd ?_;refine cD ?_ ?_<;>intro h<;>simp (disch:=omega) only [Sh.out h,go_sem,seval,↓reduceIte]
  ·exact ⟨[⟨i,false⟩],by simp [],wk⟩
  ·exact ⟨[],by simp [],wk⟩
 ·intro m hm
  have hml:m.length<=1:=by grind
  refine Zh [] _ _ _ _ (Zd ?_);refine cD ?_ ?_<;>intro h<;>simp (disch:=omega) only [Sh.out h,go_sem,seval,↓reduceIte]
  ·exact ⟨m++ [⟨i,true⟩],by simp_all [ZV],0,by simp (disch:=omega) only [go_sem,seval]⟩
  ·exact ⟨m,by simp_all [ZV],0,by simp (disch:=omega) only [go_sem,seval]⟩
theorem visits_c (l:List Ord) (c:Bool) (i:Nat) (hi:i<l.length) (hl:l.length<=1048576):PC 132 [.p (.list c (l.map eOrd)),.p (.int .i64 (i:Nat))] (.list false ((ZV l i).map Xa)) :=
 (RU l c i hi hl).frozen Zb
def Am (l:List Vis):Bool:=(List.range l.length).any fun i=>decide (0<=vIx (l.take i) (nth l i))
theorem wI (l:List Vis) (c:Bool) (hl:l.length<=1048576):PC 237 [.p (.list c (l.map Xa))] (.bool (Am l)):=by
 refine Zc Tryz.func237 rfl Zcv ?_;simp (disch:=omega) only [Tryz.f237,go_sem,seval];refine Zl [0,5,6] (fun k:Nat=> [(7,.p (.int .i64 k))]) (fun _=> []) (fun k=>k<=l.length/\ ∀j,j<k->decide (0<=vIx (l.take j) (nth l j))=false) (fun k=>l.length-k) 0 Zb (Weak.mk ?_) ?_
 ·simp (disch:=omega) only [go_sem,seval,↓reduceIte]
 ·rintro k ⟨hk,hno⟩;refine Zd ?_;refine cD ?_ ?_<;>intro h<;>simp (disch:=omega) only [Sh.out h,go_sem,seval,↓reduceIte]
  ·have hk2:k<l.length:=Za
   refine Xj (Zd ?_);refine Zo (C3 (l.take k) _ (nth l k) (by simp;omega)) (Zd ?_);refine cD ?_ ?_<;>intro h2<;>simp (disch:=omega) only [Sh.out h2,go_sem,seval,↓reduceIte]
   ·grind [Am]
   ·exact ⟨k+1,⟨Za,Zr.2 ⟨hno,by grind⟩⟩,Za,wk⟩
  grind [Am]
theorem Er (l:List Vis) (c:Bool) (g:FuncId) (caps:List V) (H:List AM.Obj) (f:Vis->Bool) (hl:l.length<=1048576) (hW:O4 H H.length H H) (hc:Xu H.length caps=true)
  (hg: ∀v∈l,ACalls Tryz.prog g (.p (Xa v)::caps) H fun x H'=>x= .p (.bool (f v))/\H'=H) :
  ACalls Tryz.prog 258 [.p (.list c (l.map Xa)),.fn (.func g) [] caps] H fun x H'=>x= .p (.int .i64 (HR f l))/\H'=H:=by
 refine Y1 Tryz.func258 rfl ZcP (Zh [] _ _ _ _ ?_);simp (disch:=omega) only [Tryz.f258,go_sem,seval];refine Zl [0,1,7] (fun k:Nat=> [(8,.p (.int .i64 k))]) (fun _=>H) (fun k=>k<=l.length/\ ∀j,j<k->f (nth l j)=false) (fun k=>l.length-k) 0 Zb (Weak.mk ?_) ?_
 ·simp (disch:=omega) only [hW,hc,go_sem,seval];simp
 ·rintro k ⟨hk,hno⟩;refine Zd ?_;refine cD ?_ ?_<;>intro h<;>simp (disch:=omega) only [Sh.out h,go_sem,seval,↓reduceIte]
  ·have hk2:k<l.length:=Za
   refine (hg (nth l k) (Zu hk2)).useH (Zd ?_);refine cD ?_ ?_<;>intro h2<;>simp (disch:=omega) only [Sh.out h2,go_sem,seval,↓reduceIte]
   ·grind [Lw]
   ·have h3:f (nth l k)=false:=Za
    refine ⟨k+1,⟨Za,Zr.2 ⟨hno,h3⟩⟩,Za,Weak.mk ?_⟩;simp (disch:=omega) only [hW,hc,go_sem,seval];simp
  grind [PU]
theorem Qk (l:List Vis) (c:Bool) (g:FuncId) (caps:List V) (H:List AM.Obj) (f:Vis->Bool) (hl:l.length<=1048576) (hW:O4 H H.length H H) (hc:Xu H.length caps=true)
  (hg: ∀v∈l,ACalls Tryz.prog g (.p (Xa v)::caps) H fun x H'=>x= .p (.bool (f v))/\H'=H) :
  ACalls Tryz.prog 234 [.p (.list c (l.map Xa)),.fn (.func g) [] caps] H fun x H'=>x= .p (.bool (l.any f))/\H'=H:=by
 refine Y1 Tryz.func234 rfl Zcs (Zh [] _ _ _ _ ?_);simp (disch:=omega) only [Tryz.f234,go_sem,seval];refine (Er l c g caps H f hl hW hc hg).useH (Zd ?_);rw [PS]
def hasO (l:List Vis) (o:Int):Bool:=l.any fun v=>decide (v.order=o)
theorem ZaS (v:Vis) (o:Int):ACalls Tryz.prog 260 [.p (Xa v),.ptr 0 0] [.cells [.p (.int .i64 o)]] fun x H'=>x= .p (.bool (decide (v.order=o)))/\H'= [.cells [.p (.int .i64 o)]]:=by
 refine Ze [] Tryz.func260 rfl ZcR ?_;simp (disch:=omega) only [Tryz.f260,go_sem,seval];exact we
theorem aG (v:Vis) (o:Int):ACalls Tryz.prog 261 [.p (Xa v),.ptr 0 0] [.cells [.p (.int .i64 o)]] fun x H'=>x= .p (.bool (decide (v.order=o)))/\H'= [.cells [.p (.int .i64 o)]]:=by
 refine Ze [] Tryz.func261 rfl ZcS ?_;simp (disch:=omega) only [Tryz.f261,go_sem,seval];exact we
theorem Dg (l:List Vis) (c:Bool) (o:Int) (hl:l.length<=1048576):PC 239 [.p (.list c (l.map Xa)),.p (.int .i64 o)] (.bool (hasO l o)):=by
 refine Zc Tryz.func239 rfl Zcx ?_;simp (disch:=omega) only [Tryz.f239,go_sem,seval];refine (Qk l c 260 [.ptr 0 0] [.cells [.p (.int .i64 o)]] (fun v=>decide (v.order=o)) hl (by simp (disch:=omega) only [go_sem,seval]) (by rfl) (fun v _=>ZaS v o)).useH (Zd ?_);rw [hasO]
def beforeB (l:List Vis) (a b:Int):Bool:=if HR (fun v=>decide (v.order=b)) l<0 then true else hasO l a&& !hasO (l.drop (HR (fun v=>decide (v.order=b)) l).toNat) a
theorem OD (l:List Vis) (c:Bool) (a b:Int) (hl:l.length<=1048576):PC 240 [.p (.list c (l.map Xa)),.p (.int .i64 a),.p (.int .i64 b)] (.bool (beforeB l a b)):=by
 refine Zc Tryz.func240 rfl Zcy ?_;simp (disch:=omega) only [Tryz.f240,go_sem,seval];refine (Er l c 261 [.ptr 0 0] [.cells [.p (.int .i64 b)]] (fun v=>decide (v.order=b)) hl (by simp (disch:=omega) only [go_sem,seval]) (by rfl) (fun v _=>aG v b)).useH ?_;have hlt:=jS (f:=fun v=>decide (v.order=b)) (l:=l);refine Zd ?_;refine cD ?_ ?_<;>intro h<;>simp (disch:=omega) only [Sh.out h,go_sem,seval]
 ·rw [beforeB,if_pos h]
 ·refine (Dg l c a hl).use (Zd ?_);generalize hq:HR (fun v=>decide (v.order=b)) l=q at hlt h ⊢
  cases h2:hasO l a with
  | false =>
   refine Zd ?_
   simp_all [beforeB]
  | true =>
   simp (disch:=omega) only [X1,go_sem,seval];refine (Dg (l.drop q.toNat) _ a (by simp;omega)).use (Zd ?_)
   simp_all [beforeB,if_neg]
def Q7 (l:List Vis):Int->List Vis->Bool
 | _,[]=>true
 | last,w::r=>decide (last<vIx l w)&&Q7 l (vIx l w) r
def pairB (os:List Ord) (l:List Vis) (v:Vis):Bool:=decide (0<=vIx (ZV os v.order.toNat) v)&&Q7 l (-1) (ZV os v.order.toNat)
theorem OG (x:Inst) (l:List Vis) (c:Bool) (hl:l.length<=1048576) (ho:x.orders.length<=1048576) (hv: ∀v∈l,0<=v.order/\v.order<x.orders.length) :
  PC 238 [.p (Zs x),.p (.list c (l.map Xa))] (.bool (l.all (pairB x.orders l))):=by
 refine Zc Tryz.func238 rfl Zcw ?_;simp (disch:=omega) only [Tryz.f238,go_sem,seval];refine Zl [1,2,12,13] (fun k:Nat=> [(14,.p (.int .i64 k))]) (fun _=> [Zf x]) (fun k=>k<=l.length/\ ∀j,j<k->pairB x.orders l (nth l j)=true) (fun k=>l.length-k) 0 Zb (Weak.mk ?_) ?_
 ·simp (disch:=omega) only [Zf,go_sem,seval]
 ·rintro k ⟨hk,hno⟩;refine YV ?_;refine cD ?_ ?_<;>intro h<;>simp (disch:=omega) only [Sh.out h,go_sem,seval,↓reduceIte]
  ·have hk2:k<l.length:=Za
   obtain ⟨v1,v2⟩:=hv _ (Zu hk2)
   have hbad:pairB x.orders l (nth l k)=false->l.all (pairB x.orders l)=false:=fun h4=>by
    grind [Zu]
   obtain ⟨i,hi⟩: ∃i:Nat,(nth l k).order=(i:Int):=⟨(nth l k).order.toNat,Za⟩
   have hp:pairB x.orders l (nth l k)=(decide (0<=vIx (ZV x.orders i) (nth l k))&&Q7 l (-1) (ZV x.orders i)):=by rw [pairB,hi];rfl
   rw [hi] at v1 v2;simp (disch:=omega) only [hi,go_sem,seval];refine (visits_c x.orders x.orders_c i Za ho).use (Zd ?_);have hvl:=WY x.orders i;have hcon:=Lt (ZV x.orders i) false (nth l k) Za;rw [Sy,hi] at hcon;refine (hcon).use (Zd ?_);refine cD ?_ ?_<;>intro h2<;>simp (disch:=omega) only [Sh.out h2,go_sem,seval]
   ·grind
   ·have h2':0<=vIx (ZV x.orders i) (nth l k):=Za
    generalize hown:ZV x.orders i=own at hvl hp h2' ⊢
    have hp2:pairB x.orders l (nth l k)=Q7 l (-1) own:=by grind
    refine Zl [1,2,12,13,14,27,28] (fun q:Nat×Int=> [(8,.p (.int .i64 q.2)),(29,.p (.int .i64 q.1))]) (fun _=> [Zf x,.cells [.p (.int .i64 (i:Int)),.p (.bool (nth l k).drp)]]) (fun q=>q.1<=own.length/\Q7 l (-1) own=Q7 l q.2 (own.drop q.1)) (fun q=>own.length-q.1) (0,-1) Zb (Weak.mk ?_) ?_
    ·simp (disch:=omega) only [Zf,go_sem,seval]
    ·rintro ⟨j,last⟩ ⟨hj,ha⟩;simp only at hj ha;refine YV ?_;refine Z0 ?_ ?_<;>intro h3
     ·have hj2:j<own.length:=Za
      have hd:own.drop j=nth own j::own.drop (j+1):=by rw [Ua hj2,Zi hj2]
      rw [hd] at ha;refine (C3 l c (nth own j) hl).use (Zd ?_);refine Z0 ?_ ?_<;>intro h4
      ·grind [Q7]
      ·have h5:last<vIx l (nth own j):=Za
       exact ⟨(j+1,vIx l (nth own j)),⟨Za,by grind [Q7]⟩,Za,wk⟩
     ·have hjl:j=own.length:=Za
      subst hjl;exact ⟨k+1,⟨Za,Zr.2 ⟨hno,by grind [Q7]⟩⟩,Za,wk⟩
  ·have hkl:k=l.length:=Za
   subst hkl
   have:l.all (pairB x.orders l)=true:=by
    rw [ZD];intro v hv;obtain ⟨j,hj,rfl⟩:=ZU.1 hv
    grind [Zi]
   rw [this]
def XA (r:Rte):AM.Obj:= .cells [.p (.int .i64 r.typ),.p (.int .i64 r.start),.p (.list r.rests_c (r.rests.map eB)),.p (.list r.visits_c (r.visits.map Xa))]
def WJ (x:Inst) (v:Vis):Bool:= !decide (0<=v.order/\v.order<(x.orders.length:Int))
theorem iQ (x:Inst) (r:Rte) (v:Vis) (ho:x.orders.length<=1048576):ACalls Tryz.prog 235 [.p (Xa v),.ptr 0 0] [Zf x,XA r] fun y H'=>y= .p (.bool (WJ x v))/\H'= [Zf x,XA r]:=by
 refine Ze [] Tryz.func235 rfl Zct ?_;simp (disch:=omega) only [Tryz.f235,Zf,XA,go_sem,seval];refine gF ?_ ?_<;>intro h<;>simp (disch:=omega) only [Sh.out h,go_sem,seval,↓reduceIte]
 ·have e:WJ x v=true:=by
   grind [WJ]
  rw [e];exact we
 ·have e:WJ x v=decide ((x.orders.length:Int)<=v.order):=by
   have h0:0<=v.order:=Za
   rw [Wz];simp [WJ,h0]
  rw [e];exact we
theorem iR (x:Inst) (r:Rte) (v:Vis) (ho:x.orders.length<=1048576) (h1:0<=v.order) (h2:v.order<x.orders.length):ACalls Tryz.prog 236 [.p (Xa v),.ptr 0 0] [Zf x,XA r] fun y H'=>y= .p (.bool (nth x.orders v.order.toNat).off)/\H'= [Zf x,XA r]:=by
 have h3:v.order.toNat<x.orders.length:=Za
 refine Ze [] Tryz.func236 rfl Zcu ?_;simp (disch:=omega) only [Tryz.f236,Zf,XA,go_sem,seval];exact we
def Xf (x:Inst) (l:List Vis):Int :=
 if l.length=0\/l.any (WJ x)=true then 2
 else if (l.any fun v=>(nth x.orders v.order.toNat).off)=true then 9
 else if Am l=true then 6
 else if l.all (pairB x.orders l)=false then 19
 else if (x.apart.any fun p=>hasO l p.1&&hasO l p.2)=true then 20
 else if (x.before.any fun p=> !beforeB l p.1 p.2)=true then 21
 else 0
theorem Ai {P Q:Prop} (h:Q) (e:Q->P:=by intro h;simp (disch:=omega) only [Zf,XA,go_sem,seval];exact h):P:=e h
theorem RK (x:Inst) (r:Rte) (ho:x.orders.length<=1048576) (hl:r.visits.length<=1048576) (hap:x.apart.length<=1048576) (hbe:x.before.length<=1048576) :
  PC 211 [.p (Zs x),.p (WM r)] (.int .i64 (Xf x r.visits)):=by
 refine Zc Tryz.func211 rfl Zb6 ?_;simp (disch:=omega) only [Tryz.f211,go_sem,seval];refine gF ?_ ?_<;>intro h0<;>simp (disch:=omega) only [Sh.out h0,go_sem,seval]
 ·grind [Xf]
 ·have h00: ¬r.visits.length=0:=Za
  refine (Qk r.visits r.visits_c 235 [.ptr 0 0] [Zf x,XA r] (WJ x) hl (by simp (disch:=omega) only [Zf,XA,go_sem,seval]) (by rfl) (fun v _=>iQ x r v ho)).useH (Ai ?_);refine cD ?_ ?_<;>intro h1<;>simp (disch:=omega) only [Sh.out h1,go_sem,seval]
  ·simp_all [Xf]
  ·have h1':r.visits.any (WJ x)=false:=Za
   have c1: ¬(r.visits.length=0\/r.visits.any (WJ x)=true):=by grind
   have hin: ∀v∈r.visits,0<=v.order/\v.order<x.orders.length:=fun v hv=>by
    grind [WJ]
   refine (Qk r.visits r.visits_c 236 [.ptr 0 0] [Zf x,XA r] (fun v=>(nth x.orders v.order.toNat).off) hl (by simp (disch:=omega) only [Zf,XA,go_sem,seval]) (by rfl) (fun v hv=>iR x r v ho (hin v hv).1 (hin v hv).2)).useH (Ai ?_);refine cD ?_ ?_<;>intro h2<;>simp (disch:=omega) only [Sh.out h2,go_sem,seval]
   ·simp_all [Xf]
   ·refine (wI r.visits r.visits_c hl).use (Zd ?_);refine cD ?_ ?_<;>intro h3<;>simp (disch:=omega) only [Sh.out h3,go_sem,seval,↓reduceIte]
    ·simp_all [Xf,if_neg]
    ·refine (OG x r.visits r.visits_c hl ho hin).use (Zd ?_);refine cD ?_ ?_<;>intro h4<;>simp (disch:=omega) only [Sh.out h4,go_sem,seval,↓reduceIte]
     ·simp_all [Xf,if_neg]
     ·have h4':r.visits.all (pairB x.orders r.visits)=true:=by grind
      have hc:Xf x r.visits=if (x.apart.any fun p=>hasO r.visits p.1&&hasO r.visits p.2)=true then 20 else if (x.before.any fun p=> !beforeB r.visits p.1 p.2)=true then 21 else 0:=by
       rw [Xf,if_neg c1,if_neg (by grind),if_neg (by grind),if_neg (by grind)]
      clear h4 h4' h3 h2 c1 h1' h1 h0;refine Zl [2,5,33,34] (fun k:Nat=> [(35,.p (.int .i64 k))]) (fun _=> [Zf x,XA r]) (fun k=>k<=x.apart.length/\ ∀j,j<k->(hasO r.visits (nth x.apart j).1&&hasO r.visits (nth x.apart j).2)=false) (fun k=>x.apart.length-k) 0 Zb (Weak.mk ?_) ?_
      ·simp (disch:=omega) only [Zf,XA,go_sem,seval]
      ·rintro k ⟨hk,hno⟩;refine Ai ?_;refine cD ?_ ?_<;>intro h<;>simp (disch:=omega) only [Sh.out h,go_sem,seval,↓reduceIte]
       ·have hk2:k<x.apart.length:=Za
        refine (Dg r.visits r.visits_c (nth x.apart k).1 hl).use (Zd ?_);refine Jv ?_ ?_<;>intro h2
        ·refine (Dg r.visits r.visits_c (nth x.apart k).2 hl).use (Zd ?_);refine Z0 ?_ ?_<;>intro h3
         ·rw [hc,if_pos (VG hk2 (by grind))]
         ·exact ⟨k+1,⟨Za,Zr.2 ⟨hno,by grind⟩⟩,Za,wk⟩
        ·exact ⟨k+1,⟨Za,Zr.2 ⟨hno,by simp [h2]⟩⟩,Za,wk⟩
       ·have hkl:k=x.apart.length:=Za
        subst hkl;rw [hc,Q6 hno];clear hno hk h hc;rw [if_neg Zb];refine Zl [5,51,52] (fun k:Nat=> [(53,.p (.int .i64 k))]) (fun _=> [Zf x,XA r]) (fun k=>k<=x.before.length/\ ∀j,j<k->(!beforeB r.visits (nth x.before j).1 (nth x.before j).2)=false) (fun k=>x.before.length-k) 0 Zb (Weak.mk ?_) ?_
        ·simp (disch:=omega) only [Zf,XA,go_sem,seval]
        ·rintro k ⟨hk,hno⟩;refine Ai ?_;refine cD ?_ ?_<;>intro h<;>simp (disch:=omega) only [Sh.out h,go_sem,seval,↓reduceIte]
         ·have hk2:k<x.before.length:=Za
          refine (OD r.visits r.visits_c (nth x.before k).1 (nth x.before k).2 hl).use (Zd ?_);refine Z0 ?_ ?_<;>intro h2
          ·have h3:(!beforeB r.visits (nth x.before k).1 (nth x.before k).2)=true:=Za
           rw [if_pos (VG hk2 h3)]
          ·have h3:(!beforeB r.visits (nth x.before k).1 (nth x.before k).2)=false:=Za
           exact ⟨k+1,⟨Za,Zr.2 ⟨hno,h3⟩⟩,Za,wk⟩
         grind [Q6]
@[go_sem] theorem ZlP {H:List AM.Obj} {n cs cs'} :Ei H n (.tup cs) (.tup cs')=(cs'=cs/\Xu n cs=true):=by simp [Ei,fI,refB]
@[go_sem] theorem RD {a b:V} :Jm [a,b]= .tup [a,b]:=Zm rfl rfl
theorem YU {g:FuncId} {args:List V} {a b:PV} {H:List AM.Obj} {K:V->List AM.Obj->Prop} (h:ACalls Tryz.prog g args [] fun x H'=>x= .tup [.p a,.p b]/\H'= []) (k:K (.tup [.p a,.p b]) H) (ha:Xu 0 args=true:=by rfl):ACalls Tryz.prog g args H K :=
 (h.behind ha H).mono fun x H' hq=>by
  obtain ⟨y,H1,⟨rfl,rfl⟩,rfl,rfl⟩:=hq
  grind [shV,shVs]
def Xz (l:List Vis):Nat:=l.foldl (fun s v=>s|||pw v.order.toNat) 0
def Hu (v:Vis):Bool:=decide (0<=v.order/\v.order<=62)
theorem DU {l:List Vis} {k:Nat} (hk:k<l.length):Xz (l.take (k+1))=Xz (l.take k)|||pw (nth l k).order.toNat:=by
 grind [X3,Xz,Zi]
theorem A1 : ∀(k:Nat) {l:List Vis},k<=l.length->(∀v∈l.take k,Hu v=true)->Xz (l.take k)<9223372036854775808
 | 0,l,_,_=>by simp [Xz]
 | k+1,l,hk,h=>by
  have hk2:k<l.length:=Za
  have ih:=A1 k (l:=l) Za fun v hv=>h v (List.take_subset_take_left l Za hv);have hv:=h (nth l k) (by rw [Zi hk2];exact ZU.2 ⟨k,by simp;omega,Zb⟩);simp only [Hu,Zq] at hv;have h2:pw (nth l k).order.toNat<=pw 62:=KD Za;have h3:=GD;rw [DU hk2];exact Ji (n:=63) Za Za
def Jl (l:List Vis):Int×Int:=if l.all Hu=true then (((Xz l:Nat):Int),0) else (0,2)
theorem OF (r:Rte) (hl:r.visits.length<=1048576):PT 262 [.p (WM r)] [.p (.int .i64 (Jl r.visits).1),.p (.int .i64 (Jl r.visits).2)]:=by
 refine Ze [] Tryz.func262 rfl ZcT ?_;simp (disch:=omega) only [Tryz.f262,go_sem,seval];refine Zl [8,9] (fun k:Nat=> [(4,.p (.int .i64 (Xz (r.visits.take k):Nat))),(10,.p (.int .i64 k))]) (fun _=> [XA r]) (fun k=>k<=r.visits.length/\ ∀j,j<k->Hu (nth r.visits j)=true) (fun k=>r.visits.length-k) 0 Zb (Weak.mk ?_) ?_
 ·simp (disch:=omega) only [XA,Xz,Jj,UQ,go_sem,seval]
 ·rintro k ⟨hk,hno⟩
  have hlt:=A1 k hk fun v hv=>by
   obtain ⟨j,hj,rfl⟩:=ZU.1 hv
   grind [Zi]
  simp (disch:=omega) only [XA,go_sem,seval];refine cD ?_ ?_<;>intro h<;>simp (disch:=omega) only [Sh.out h,go_sem,seval,↓reduceIte]
  ·have hk2:k<r.visits.length:=Za
   have hbad:Hu (nth r.visits k)=false->Jl r.visits=(0,2):=fun h4=>by
    grind [Zu,Jl]
   have hs:=DU hk2
   have hp:(nth r.visits k).order<=62->pw (nth r.visits k).order.toNat<=4611686018427387904:=fun h=>by rw [<- GD];exact KD Za
   refine gF ?_ ?_<;>intro h1<;>simp (disch:=omega) only [Sh.out h1,go_sem,seval,↓reduceIte]
   ·have e:=hbad (by simp [Hu];omega);rw [e];exact we
   ·refine Z0 ?_ ?_<;>intro h2
    ·have e:=hbad (by simp [Hu];omega);rw [e];exact we
    ·exact ⟨k+1,⟨Za,Zr.2 ⟨hno,by simp [Hu];omega⟩⟩,Za,Weak.mk (by simp (disch:=omega) only [hs,go_sem,seval])⟩
  ·have hkl:k=r.visits.length:=Za
   subst hkl
   have:r.visits.all Hu=true:=by
    rw [ZD];intro v hv;obtain ⟨j,hj,rfl⟩:=ZU.1 hv
    grind [Zi]
   have e:Jl r.visits=(((Xz r.visits:Nat):Int),0):=by simp [Jl,this]
   rw [e,X1];exact we
theorem Qr {α:Type} [Inhabited α] {a b:List α} (hl:a.length=b.length) (h: ∀j,j<a.length->nth a j=nth b j):a=b:=by
 grind [Uc,Zi]
def W0 (a b:Int):Int:=if a<b then-1 else if b<a then 1 else 0
theorem SS (a:Int):PC 127 [.p (.int .i64 a)] (.bool false):=by
 refine Zc Tryz.func127 rfl Za9 ?_;simp (disch:=omega) only [Tryz.f127,go_sem,seval]
 try simp
theorem En (a b:Int):PC 92 [.p (.int .i64 a),.p (.int .i64 b)] (.int .i64 (W0 a b)):=by
 refine Zc Tryz.func92 rfl Zj8 ?_;simp (disch:=omega) only [Tryz.f92,go_sem,seval];refine (SS a).use (Zd ?_);refine (SS b).use (Zd ?_);refine cD ?_ ?_<;>intro h<;>simp (disch:=omega) only [Sh.out h,go_sem,seval]
 ·simp [W0,h]
 ·refine cD ?_ ?_<;>intro h2<;>simp (disch:=omega) only [Sh.out h2,go_sem,seval]
  ·simp [W0,h,h2]
  grind [W0]
def uI (l:List Int):Int:=(l.find? fun n=>decide (n≠0)).getD 0
theorem ZdI {l:List Int} {k:Nat} (hk:k<l.length) (h:nth l k≠0) (hno: ∀j,j<k->nth l j=0):uI l=nth l k:=by
 grind [nth,EV,uI]
theorem ZdJ {l:List Int} (hno: ∀j,j<l.length->nth l j=0):uI l=0:=by
 have:l.find? (fun n=>decide (n≠0))=none:=by
  rw [Kb];intro x hx;obtain ⟨j,hj,rfl⟩:=ZU.1 hx
  grind [Zi]
 grind [uI]
theorem uJ (l:List Int) (c:Bool) (hl:l.length<=100):PC 91 [.p (.list c (l.map eI))] (.int .i64 (uI l)):=by
 refine Zc Tryz.func91 rfl Zj7 ?_;simp (disch:=omega) only [Tryz.f91,go_sem,seval];refine Zl [3,6,7] (fun k:Nat=> [(8,.p (.int .i64 k))]) (fun _=> []) (fun k=>k<=l.length/\ ∀j,j<k->nth l j=0) (fun k=>l.length-k) 0 Zb (Weak.mk ?_) ?_
 ·simp (disch:=omega) only [go_sem,seval]
 ·rintro k ⟨hk,hno⟩;refine Zd ?_;refine cD ?_ ?_<;>intro h<;>simp (disch:=omega) only [Sh.out h,go_sem,seval,↓reduceIte]
  ·have hk2:k<l.length:=Za
   refine Z0 ?_ ?_<;>intro h2
   ·grind [ZdI]
   ·exact ⟨k+1,⟨Za,Zr.2 ⟨hno,Za⟩⟩,Za,wk⟩
  grind [ZdJ]
theorem Fg (a b:Int):uI [a,b]=if a=0 then b else a:=by
 grind [uI]
def dn (v:Vis):Int:=if v.drp=true then 1 else 0
theorem N1 (v:Vis):PC 251 [.p (Xa v)] (.int .i64 (dn v)):=by
 refine Zc Tryz.func251 rfl ZcI ?_;simp (disch:=omega) only [Tryz.f251,go_sem,seval];refine cD ?_ ?_<;>intro h<;>simp (disch:=omega) only [Sh.out h,go_sem,seval]
 ·simp [dn,h]
 ·simp [dn,h]
def DD (a b:Vis):Int:=if W0 a.order b.order=0 then W0 (dn a) (dn b) else W0 a.order b.order
theorem aW (a b:Vis):PC 217 [.p (Xa a),.p (Xa b)] (.int .i64 (DD a b)):=by
 refine Zc Tryz.func217 rfl Zcc ?_;simp (disch:=omega) only [Tryz.f217,go_sem,seval];refine Xj (Zd ?_);refine Zo (En a.order b.order) (Zd ?_);refine Zo (N1 a) (Zd ?_);refine Zo (N1 b) (Zd ?_);refine Zo (En (dn a) (dn b)) (Zd ?_);refine Zo (uJ [W0 a.order b.order,W0 (dn a) (dn b)] false Zb) (Zd ?_);rw [Fg,DD]
def BF : List Vis->List Vis->Int
 | [],[]=>0
 | [],_::_=> -1
 | _::_,[]=>1
 | a::r,b::s=>if DD a b=0 then BF r s else DD a b
theorem Ql {α:Type} [Inhabited α] {l:List α} {k:Nat} (h:k<l.length):l.drop k=nth l k::l.drop (k+1):=by rw [Ua h,Zi h]
theorem Hp (a b:List Vis) (c d:Bool) (ha:a.length<=1048576) (hb:b.length<=1048576) :
  PC 216 [.p (.list c (a.map Xa)),.p (.list d (b.map Xa)),.fn (.func 217) [] []] (.int .i64 (BF a b)):=by
 refine Zc Tryz.func216 rfl Zcb ?_;simp (disch:=omega) only [Tryz.f216,go_sem,seval];refine Zl [0,1,2,11,12] (fun k:Nat=> [(13,.p (.int .i64 k))]) (fun _=> []) (fun k=>k<=a.length/\k<=b.length/\BF a b=BF (a.drop k) (b.drop k)) (fun k=>a.length-k) 0 Zb (Weak.mk ?_) ?_
 ·simp (disch:=omega) only [go_sem,seval,↓reduceIte]
 ·rintro k ⟨hk,hkb,hle⟩;refine Zd ?_;refine cD ?_ ?_<;>intro h<;>simp (disch:=omega) only [Sh.out h,go_sem,seval,↓reduceIte]
  ·have hk2:k<a.length:=Za
   rw [Ql hk2] at hle;refine cD ?_ ?_<;>intro h2<;>simp (disch:=omega) only [Sh.out h2,go_sem,seval,↓reduceIte]
   ·have:b.drop k= []:=CE Za;rw [hle,this];rfl
   ·have hk3:k<b.length:=Za
    rw [Ql hk3] at hle;refine (aW (nth a k) (nth b k)).use (Zd ?_);refine cD ?_ ?_<;>intro h3<;>simp (disch:=omega) only [Sh.out h3,go_sem,seval,↓reduceIte]
    ·simp_all [BF]
    ·have h4:DD (nth a k) (nth b k)=0:=Za
     exact ⟨k+1,⟨Za,Za,by simp_all [BF]⟩,Za,wk⟩
  ·have hkl:k=a.length:=Za
   subst hkl;rw [UO] at hle;refine cD ?_ ?_<;>intro h2<;>simp (disch:=omega) only [Sh.out h2,go_sem,seval]
   ·rw [Ql Za] at hle;rw [hle];rfl
   ·have:b.drop a.length= []:=CE Za;rw [hle,this];rfl
theorem dZ (a b:List Vis) (c d:Bool) (ha:a.length<=1048576) (hb:b.length<=1048576):PC 196 [.p (.list c (a.map Xa)),.p (.list d (b.map Xa))] (.bool (decide (BF a b<0))):=by
 refine Zc Tryz.func196 rfl ZbV ?_;simp (disch:=omega) only [Tryz.f196,go_sem,seval];refine (Hp a b c d ha hb).use ?_;simp (disch:=omega) only [go_sem,seval]
def KJ (l:List Vis) (v:Vis):List Vis->Bool
 | []=>true
 | w::r=>if w=v then true else decide (0<=vIx l w)&&KJ l v r
def Up (l own:List Vis):Bool:=own.all fun w=>decide (0<=vIx l w)
def KO (os:List Ord) (l:List Vis) (o:Int) (p:Int×Int):Bool:=decide (p.2≠o)||Up l (ZV os p.1.toNat)
def Y7 (x:Inst) (l:List Vis) (v:Vis):Bool:=decide (vIx l v<0)&&KJ l v (ZV x.orders v.order.toNat)&&x.before.all (KO x.orders l v.order)
def Q2 (v:Vis):AM.Obj:= .cells [.p (.int .i64 v.order),.p (.bool v.drp)]
theorem pR {l:List Vis} {v:Vis} : -1<=vIx l v/\vIx l v<l.length:=by
 simp_all [jS,vIx]
theorem RL (x:Inst) (l:List Vis) (c:Bool) (v:Vis) (hl:l.length<=1048576) (ho:x.orders.length<=1048576) (hbl:x.before.length<=1048576) (hv:0<=v.order/\v.order<x.orders.length) (hb: ∀p∈x.before,0<=p.1/\p.1<x.orders.length) :
  PC 197 [.p (Zs x),.p (.list c (l.map Xa)),.p (Xa v)] (.bool (Y7 x l v)):=by
 refine VE [3] Tryz.func197 rfl ZbW ?_;simp (disch:=omega) only [Tryz.f197,go_sem,seval];refine (C3 l c v hl).use (Zd ?_);refine cD ?_ ?_<;>intro h<;>simp (disch:=omega) only [Sh.out h,go_sem,seval]
 ·grind [Y7]
 ·have h1:vIx l v<0:=Za
  obtain ⟨i,hi⟩: ∃i:Nat,v.order=(i:Int):=⟨v.order.toNat,Za⟩
  have hr:Y7 x l v=(KJ l v (ZV x.orders i)&&x.before.all (KO x.orders l v.order)):=by
   grind [Y7]
  have hvi:=visits_c x.orders x.orders_c i Za ho;rw [<- hi] at hvi;refine ZM [1,3,5] (fun _:Unit=> []) (fun _=> [Zf x,Q2 v]) (fun _=>KJ l v (ZV x.orders i)=true) ?_ ?_
  ·refine Zd ?_;refine (hvi).use (Zd ?_);have hvl:=WY x.orders i;generalize hown:ZV x.orders i=own at hvl hr ⊢;refine Zl [1,3,5,21,22] (fun k:Nat=> [(23,.p (.int .i64 k))]) (fun _=> [Zf x,Q2 v]) (fun k=>k<=own.length/\KJ l v own=KJ l v (own.drop k)) (fun k=>own.length-k) 0 Zb (Weak.mk ?_) ?_
   ·simp (disch:=omega) only [Zf,Q2,go_sem,seval]
   ·rintro k ⟨hk,hp⟩;simp (disch:=omega) only [Zf,Q2,go_sem,seval];refine Z0 ?_ ?_<;>intro h2
    ·have hk2:k<own.length:=Za
     rw [Ql hk2] at hp;refine Z0 ?_ ?_<;>intro h3
     ·have h4:nth own k=v:=by grind [Ef]
      exact ⟨(),by simp_all [KJ],wk⟩
     ·have h4: ¬nth own k=v:=by grind
      refine (C3 l c (nth own k) hl).use (Zd ?_);refine Z0 ?_ ?_<;>intro h5
      ·have h6: ¬ 0<=vIx l (nth own k):=Za
       simp_all [KJ]
      ·have h6:0<=vIx l (nth own k):=Za
       exact ⟨k+1,⟨Za,by simp_all [KJ]⟩,Za,wk⟩
    ·have hkl:k=own.length:=Za
     subst hkl;exact ⟨(),by rw [hp,UO];rfl,wk⟩
  ·rintro _ hpre;rw [hpre,VQ] at hr;refine Zh [] _ _ _ _ ?_;simp (disch:=omega) only [Zf,Q2,go_sem,seval];refine Zl [1,3,5,36,37] (fun k:Nat=> [(38,.p (.int .i64 k))]) (fun _=> [Zf x,Q2 v]) (fun k=>k<=x.before.length/\ ∀j,j<k->KO x.orders l v.order (nth x.before j)=true) (fun k=>x.before.length-k) 0 Zb (Weak.mk ?_) ?_
   ·simp (disch:=omega) only [Zf,Q2,go_sem,seval]
   ·rintro k ⟨hk,hno⟩;simp (disch:=omega) only [Zf,Q2,go_sem,seval];refine cD ?_ ?_<;>intro h2<;>simp (disch:=omega) only [Sh.out h2,go_sem,seval,↓reduceIte]
    ·have hk2:k<x.before.length:=Za
     have hbk:=hb _ (Zu hk2)
     have hbad:KO x.orders l v.order (nth x.before k)=false->Y7 x l v=false:=fun h4=>by
      grind [Zu]
     refine Z0 ?_ ?_<;>intro h3
     ·exact ⟨k+1,⟨Za,Zr.2 ⟨hno,by simp [KO,h3]⟩⟩,Za,wk⟩
     ·obtain ⟨a,hao⟩: ∃a:Nat,(nth x.before k).1=(a:Int):=⟨(nth x.before k).1.toNat,Za⟩;have hva:=visits_c x.orders x.orders_c a Za ho;rw [<- hao] at hva
      have h3':(nth x.before k).2=v.order:=Za
      have hbe:KO x.orders l v.order (nth x.before k)=Up l (ZV x.orders a):=by grind [KO]
      refine (hva).use (Zd ?_);have hvl:=WY x.orders a;generalize hown:ZV x.orders a=own at hvl hbe ⊢;refine Zl [1,3,5,36,37,38,51,52] (fun k:Nat=> [(53,.p (.int .i64 k))]) (fun _=> [Zf x,Q2 v,.cells [.p (.int .i64 (nth x.before k).1),.p (.int .i64 (nth x.before k).2)]]) (fun q=>q<=own.length/\ ∀j,j<q->decide (0<=vIx l (nth own j))=true) (fun k=>own.length-k) 0 Zb (Weak.mk ?_) ?_
      ·simp (disch:=omega) only [Zf,Q2,go_sem,seval]
      ·rintro q ⟨hq,hnq⟩;simp (disch:=omega) only [Zf,Q2,go_sem,seval];refine Z0 ?_ ?_<;>intro h4
       ·have hq2:q<own.length:=Za
        refine (C3 l c (nth own q) hl).use (Zd ?_);refine Z0 ?_ ?_<;>intro h5
        ·grind [Up,Zu]
        ·exact ⟨q+1,⟨Za,Zr.2 ⟨hnq,by simp;omega⟩⟩,Za,wk⟩
       ·have hql:q=own.length:=Za
        subst hql
        have:Up l own=true:=by
         rw [Up,ZD];intro w hw;obtain ⟨j,hj,rfl⟩:=ZU.1 hw
         grind [Zi]
        exact ⟨k+1,⟨Za,Zr.2 ⟨hno,by grind⟩⟩,Za,wk⟩
    ·have hkl:k=x.before.length:=Za
     subst hkl
     have:x.before.all (KO x.orders l v.order)=true:=by
      rw [ZD];intro w hw;obtain ⟨j,hj,rfl⟩:=ZU.1 hw
      grind [Zi]
     rw [hr,this]
def Uv (x:Inst) (S:Nat) (l:List Vis) (i:Nat):List Vis:=if S.testBit i=true/\(nth x.orders i).off=false then (ZV x.orders i).filter (Y7 x l) else []
def nextU (x:Inst) (S:Nat) (l:List Vis) (k:Nat):List Vis:=(List.range k).flatMap (Uv x S l)
theorem BJ (x S l k):nextU x S l (k+1)=nextU x S l k++Uv x S l k:=by simp [nextU,Yh]
theorem cJ (x S l i):(Uv x S l i).length<=2:=by
 grind [Uv,WY]
theorem JI (x S l): ∀k,(nextU x S l k).length<=2*k
 | 0=>by simp [nextU]
 | k+1=>by
  have h1:=JI x S l k;have h2:=cJ x S l k;rw [BJ,ZA];omega
theorem eA (x:Inst) (S:Nat) (l:List Vis) (c:Bool) (hS:S<9223372036854775808) (hl:l.length<=1048576) (ho:x.orders.length<=60) (hbl:x.before.length<=1048576) (hb: ∀p∈x.before,0<=p.1/\p.1<x.orders.length) :
  PC 167 [.p (Zs x),.p (.int .i64 (S:Nat)),.p (.list c (l.map Xa))] (.list false ((nextU x S l x.orders.length).map Xa)):=by
 refine ACalls.frozen (S:=2) (n:=(nextU x S l x.orders.length).length) Zb ?_
 suffices hh:ACalls Tryz.prog 167 [.p (Zs x),.p (.int .i64 (S:Nat)),.p (.list c (l.map Xa))] [] fun y H'=> ∃m:List Vis,m=nextU x S l x.orders.length/\y= .sl 0 0 m.length m.length/\H'= [.elems 2 (m.map Xa)] by
  grind
 refine ZI [2] Tryz.func167 rfl ZbE ?_;simp (disch:=omega) only [Tryz.f167,go_sem,seval];refine Zp (Weak.ofNil 7 2 (by simp (disch:=omega) only [go_sem,seval]) Zb (Weak.refl _ _ _)) ?_;refine Zh [] _ _ _ _ (Zd ?_);refine Zl [1,2,3,13,14] (fun q:Nat×List Vis=> [(7,.sl 1 0 q.2.length q.2.length),(15,.p (.int .i64 q.1))]) (fun q=> [Zf x,.elems 2 (q.2.map Xa)]) (fun q=>q.1<=x.orders.length/\q.2=nextU x S l q.1) (fun q=>x.orders.length-q.1) (0,[]) ⟨Zb,by simp [nextU]⟩ (Weak.mk ?_) ?_
 ·simp (disch:=omega) only [Zf,go_sem,seval]
 ·rintro ⟨k,m⟩ ⟨hk,hm⟩;simp only at hk hm
  have hml:m.length<=2*k:=by grind [JI]
  have hsc:=BJ x S l k;refine YV ?_;refine cD ?_ ?_<;>intro h<;>simp (disch:=omega) only [Sh.out h,go_sem,seval,↓reduceIte]
  ·have hk2:k<x.orders.length:=Za
   refine Lr ?_ ?_<;>intro h62
   ·omega
   refine Lr ?_ ?_<;>intro h2
   ·have hbit:S.testBit k=false:=by grind [Lj]
    have e:Uv x S l k= []:=by simp [Uv,hbit]
    exact ⟨(k+1,m),⟨Za,by grind⟩,Za,wk⟩
   ·have hbit:S.testBit k=true:=by
     grind [Lj]
    refine Z0 ?_ ?_<;>intro h3
    ·have e:Uv x S l k= []:=by simp [Uv,h3]
     exact ⟨(k+1,m),⟨Za,by grind⟩,Za,wk⟩
    ·have h3':(nth x.orders k).off=false:=Za
     have e:Uv x S l k=(ZV x.orders k).filter (Y7 x l):=by grind [Uv]
     refine (visits_c x.orders x.orders_c k hk2 Za).use (Zd ?_);have hvl:=WY x.orders k;have hvo: ∀v∈ZV x.orders k,v.order=k:=fun v hv=>Yk hv;generalize hown:ZV x.orders k=own at hvl e hvo ⊢;refine Zl [1,2,3,13,14,15,36,37] (fun q:Nat×List Vis=> [(7,.sl 1 0 q.2.length q.2.length),(38,.p (.int .i64 q.1))]) (fun q=> [Zf x,.elems 2 (q.2.map Xa),YO (nth x.orders k)]) (fun q=>q.1<=own.length/\q.2=m++(own.take q.1).filter (Y7 x l)) (fun q=>own.length-q.1) (0,m) ⟨Zb,Zb⟩ (Weak.mk ?_) ?_
     ·simp (disch:=omega) only [Zf,YO,h3',go_sem,seval]
     ·rintro ⟨j,m2⟩ ⟨hj,hm2⟩;simp only at hj hm2
      have hm2l:m2.length<=2*k+2:=by
       grind
      simp (disch:=omega) only [Zf,YO,h3',go_sem,seval];refine Z0 ?_ ?_<;>intro h4
      ·have hj2:j<own.length:=Za
       have hvj:=hvo _ (Zu hj2)
       have htk:own.take (j+1)=own.take j++ [nth own j]:=by rw [X3 hj2,Zi hj2]
       have hrd:=RL x l c (nth own j) hl Za hbl Za hb;refine (hrd).use (Zd ?_);refine Z0 ?_ ?_<;>intro h5
       ·exact ⟨(j+1,m2++ [nth own j]),⟨Za,by grind⟩,Za,Weak.mk (by simp (disch:=omega) only [h3',go_sem,seval])⟩
       ·exact ⟨(j+1,m2),⟨Za,by grind⟩,Za,Weak.mk (by simp (disch:=omega) only [h3',go_sem,seval])⟩
      ·have hjl:j=own.length:=Za
       subst hjl;exact ⟨(k+1,m2),⟨Za,by grind⟩,Za,wk⟩
  ·have hkn:k=x.orders.length:=Za
   subst hkn;exact ⟨m,hm,1,by simp (disch:=omega) only [go_sem,seval]⟩
theorem ZaC (l:List Vis) (c:Bool) (hl:l.length<=1048576):PC 170 [.p (.list c (l.map Xa))] (.list true (l.map Xa)):=by
 refine Zc Tryz.func170 rfl ZbH ?_;simp (disch:=omega) only [Tryz.f170,go_sem,seval,↓reduceIte]
@[go_sem] theorem Zoe {H:List AM.Obj} {u2:TypeId} {xs:List PV} {y:V} {k:V->List AM.Obj->Prop} {tt} :SB Tryz.prog H 117 u2 (.p (.list true xs)) y (Zw k tt)=BN ((T4 (some (2,16)) xs (YM (Tryz.prog.underlying u2) H y)).map .p) (Zw (fun v=>k v H) ⟨⟩):=PO R7
def Zqj (nx:List Vis->List Vis):Nat->List Vis->List (List Vis)->List (List Vis)×Bool
 | 0,l,outs=>(outs++ [l],decide (outs.length+1<=8192))
 | f+1,l,outs=>(nx l).foldl (fun acc v=>if acc.2=true then Zqj nx f (l++ [v]) acc.1 else acc) (outs,true)
def Ak (x:Inst) (S k:Nat):Nat:=((List.range k).map fun i=>if S.testBit i=true then (ZV x.orders i).length else 0).sum
theorem Ba (x S k):Ak x S (k+1)=Ak x S k+if S.testBit k=true then (ZV x.orders k).length else 0:=by simp [Ak,Yh]
theorem Do (x S): ∀k,Ak x S k<=2*k
 | 0=>by simp [Ak]
 | k+1=>by
  have h1:=Do x S k;have h2:=WY x.orders k;rw [Ba]
  split<;>omega
def nHas (S:Nat) (i:Int):Bool:=decide (0<=i/\i<=62)&&S.testBit i.toNat
theorem NY {S i:Nat} (h:i<=62):nHas S (i:Int)=S.testBit i:=by
 grind [nHas]
theorem JL (S:Nat) (i:Int) (hS:S<9223372036854775808):PC 187 [.p (.int .i64 (S:Nat)),.p (.int .i64 i)] (.bool (nHas S i)):=by
 refine Zc Tryz.func187 rfl ZbN ?_;simp (disch:=omega) only [Tryz.f187,go_sem,seval];refine gT ?_ ?_<;>intro h<;>simp (disch:=omega) only [Sh.out h,go_sem,seval,↓reduceIte]
 ·refine gT ?_ ?_<;>intro h1<;>simp (disch:=omega) only [Sh.out h1,go_sem,seval,↓reduceIte]
  ·refine gT ?_ ?_<;>intro h2<;>simp (disch:=omega) only [Sh.out h2,go_sem,seval,↓reduceIte]
   ·have e:((S / pw i.toNat:Nat):Int).tmod 2=((S / pw i.toNat%2:Nat):Int):=by rfl
    rw [e];have h3:(((S / pw i.toNat%2:Nat):Int)=1)=(S.testBit i.toNat=true):=Lk
    simp_all [nHas]
   ·simp [nHas,h2]
  ·simp [nHas,h1]
 ·omega
theorem OA (x:Inst) (i:Nat) (hi:i<x.orders.length) (hl:x.orders.length<=1048576) (hpl: ∀o∈x.orders,-1<=o.pick.place/\ -1<=o.drp.place):ACalls Tryz.prog 189 [.p (Zs x),.p (.int .i64 (i:Nat))] [] fun y H'=>y= .sl 0 0 (ZV x.orders i).length (ZV x.orders i).length/\H'= [.elems 2 ((ZV x.orders i).map Xa)]:=by
 suffices hh:ACalls Tryz.prog 189 [.p (Zs x),.p (.int .i64 (i:Nat))] [] fun y H'=> ∃m:List Vis,m=ZV x.orders i/\y= .sl 0 0 m.length m.length/\H'= [.elems 2 (m.map Xa)] by
  grind
 obtain ⟨h1,h2⟩:=hpl _ (Zu hi);refine ZI [2] Tryz.func189 rfl ZbP ?_;simp (disch:=omega) only [Tryz.f189,go_sem,seval];refine Zp (Weak.ofNil 5 2 (by simp (disch:=omega) only [go_sem,seval]) Zb (Weak.refl _ _ _)) ?_;refine ZM [1,2] (fun m:List Vis=> [(5,.sl 1 0 m.length m.length)]) (fun m=> [Zf x,.elems 2 (m.map Xa)]) (fun m=>m=(if 0<=(nth x.orders i).pick.place then [⟨i,false⟩] else [])) ?_ ?_
 ·refine Zd ?_;refine Z0 ?_ ?_<;>intro h
  ·exact ⟨[⟨i,false⟩],by grind,Weak.mk (by simp (disch:=omega) only [Zf,go_sem,seval])⟩
  ·exact ⟨[],by grind,Weak.mk (by simp (disch:=omega) only [Zf,go_sem,seval])⟩
 ·intro m hm
  have hml:m.length<=1:=by grind
  refine Zh [] _ _ _ _ (YV ?_);refine cD ?_ ?_<;>intro h<;>simp (disch:=omega) only [Sh.out h,go_sem,seval,↓reduceIte]
  ·exact ⟨m++ [⟨i,true⟩],by rw [ZV,hm,if_pos (c:=0<=(nth x.orders i).drp.place) Za],1,by simp (disch:=omega) only [go_sem,seval]⟩
  ·exact ⟨m,by simp_all [ZV],1,by simp (disch:=omega) only [go_sem,seval]⟩
theorem D6 (x:Inst) (i:Nat) (hi:i<x.orders.length) (hl:x.orders.length<=1048576) (hpl: ∀o∈x.orders,-1<=o.pick.place/\ -1<=o.drp.place):PC 189 [.p (Zs x),.p (.int .i64 (i:Nat))] (.list false ((ZV x.orders i).map Xa)) :=
 (OA x i hi hl hpl).frozen Zb
theorem Qz (l:List Vis) (c:Bool) (v:Vis) (hl:l.length<=1048576):PC 190 [.p (.list c (l.map Xa)),.p (Xa v)] (.int .i64 (vIx l v)):=by
 refine Zc Tryz.func190 rfl ZbQ ?_;simp (disch:=omega) only [Tryz.f190,go_sem,seval];refine Zl [0,3] (fun k:Nat=> [(5,.p (.int .i64 k))]) (fun _=> [Q2 v]) (fun k=>k<=l.length/\ ∀j,j<k->decide (v=nth l j)=false) (fun k=>l.length-k) 0 Zb (Weak.mk ?_) ?_
 ·simp (disch:=omega) only [Q2,go_sem,seval,↓reduceIte]
 ·rintro k ⟨hk,hno⟩;simp (disch:=omega) only [Q2,go_sem,seval];refine cD ?_ ?_<;>intro h<;>simp (disch:=omega) only [Sh.out h,go_sem,seval,↓reduceIte]
  ·have hk2:k<l.length:=Za
   refine Xj (Zd ?_);refine cD ?_ ?_<;>intro h2<;>simp (disch:=omega) only [Sh.out h2,go_sem,seval,↓reduceIte]
   ·have:v=nth l k:=Eq.symm (by grind [Ef])
    grind [vIx,Lw]
   ·have: ¬v=nth l k:=fun e=>by grind
    exact ⟨k+1,⟨Za,Zr.2 ⟨hno,by grind⟩⟩,Za,wk⟩
  grind [vIx,PU]
theorem Eu (l s:List Vis) (c d:Bool) (hl:l.length<=1048576) (hs:s.length<=1048576):PC 204 [.p (.list c (l.map Xa)),.p (.list d (s.map Xa))] (.bool (Up l s)):=by
 refine Zc Tryz.func204 rfl Zb0 ?_;simp (disch:=omega) only [Tryz.f204,go_sem,seval];refine Zl [0,1] (fun k:Nat=> [(5,.p (.int .i64 k))]) (fun _=> []) (fun k=>k<=s.length/\ ∀j,j<k->decide (0<=vIx l (nth s j))=true) (fun k=>s.length-k) 0 Zb (Weak.mk ?_) ?_
 ·simp (disch:=omega) only [go_sem,seval,↓reduceIte]
 ·rintro k ⟨hk,hno⟩;refine Zd ?_;refine cD ?_ ?_<;>intro h<;>simp (disch:=omega) only [Sh.out h,go_sem,seval,↓reduceIte]
  ·have hk2:k<s.length:=Za
   refine (Qz l c (nth s k) hl).use (Zd ?_);refine cD ?_ ?_<;>intro h2<;>simp (disch:=omega) only [Sh.out h2,go_sem,seval,↓reduceIte]
   ·grind [Up,Zu]
   ·exact ⟨k+1,⟨Za,Zr.2 ⟨hno,by simp;omega⟩⟩,Za,wk⟩
  ·have hkl:k=s.length:=Za
   subst hkl
   have:Up l s=true:=by
    rw [Up,ZD];intro w hw;obtain ⟨j,hj,rfl⟩:=ZU.1 hw
    grind [Zi]
   rw [this]
theorem oI (a b:Vis):PC 210 [.p (Xa a),.p (Xa b)] (.bool (decide (DD a b<0))):=by
 refine Zc Tryz.func210 rfl Zb5 ?_;simp (disch:=omega) only [Tryz.f210,go_sem,seval]
 repeat' (first | (refine gT ?_ ?_<;>intro hq<;>simp (disch:=omega) only [Sh.out hq,go_sem,seval,↓reduceIte]) | (refine gF ?_ ?_<;>intro hq<;>simp (disch:=omega) only [Sh.out hq,go_sem,seval,↓reduceIte]) | (refine QK (fun hq=> ?_) (fun hq=> ?_)<;>(try simp only [Zq,Ya,Z1] at hq)<;>simp (disch:=omega) only [Sh.out hq,go_sem,seval]))
 ·simp_all [DD,W0]
 ·rename_i h1 h2
  have ha:a.drp=false:=by grind
  cases hb:b.drp<;>simp [DD,W0,dn,h2,ha,hb]
 ·grind [DD,W0,dn]
 grind [DD,W0]
theorem DC {a b:Int} :W0 a b=0↔a=b:=by grind [W0]
theorem ZaH {a b:Vis} :dn a=dn b↔a.drp=b.drp:=by grind [dn]
theorem HL {a b:Vis} :DD a b=0↔a=b:=by
 grind [DD,Ef,DC,ZaH]
theorem vJ (a b:List Vis) (c d:Bool) (ha:a.length<=1048576) (hb:b.length<=1048576):PC 192 [.p (.list c (a.map Xa)),.p (.list d (b.map Xa))] (.bool (decide (BF a b<0))):=by
 refine Zc Tryz.func192 rfl ZbS ?_;simp (disch:=omega) only [Tryz.f192,go_sem,seval];refine Zl [0,1] (fun k:Nat=> [(5,.p (.int .i64 k))]) (fun _=> []) (fun k=>k<=a.length/\k<=b.length/\BF a b=BF (a.drop k) (b.drop k)) (fun k=>a.length-k) 0 Zb (Weak.mk ?_) ?_
 ·simp (disch:=omega) only [go_sem,seval,↓reduceIte]
 ·rintro k ⟨hk,hkb,hle⟩;refine Zd ?_;refine gT ?_ ?_<;>intro h<;>simp (disch:=omega) only [Sh.out h,go_sem,seval,↓reduceIte]
  ·refine cD ?_ ?_<;>intro h2<;>simp (disch:=omega) only [Sh.out h2,go_sem,seval,↓reduceIte]
   ·have hk2:k<a.length:=Za
    have hk3:k<b.length:=Za
    rw [Ql hk2,Ql hk3,BF] at hle;refine Xj (Zd ?_);refine cD ?_ ?_<;>intro h3<;>simp (disch:=omega) only [Sh.out h3,go_sem,seval,↓reduceIte]
    ·have hne:DD (nth a k) (nth b k)≠0:=fun e=>by
      grind [HL]
     refine Xj (Zd ?_);refine Zo (oI (nth a k) (nth b k)) (Zd ?_)
     grind
    ·have e2:nth a k=nth b k:=by
      grind [Ef]
     exact ⟨k+1,⟨Za,Za,by simp_all [HL]⟩,Za,wk⟩
   grind [Ql,BF]
  ·have:a.drop k= []:=CE Za;rw [hle,this]
   cases hb:b.drop k with
   | nil =>
    have:b.length<=k:=List.drop_eq_nil_iff.1 hb;simp [BF];omega
   | cons x r =>
    have:k<b.length:=by
     grind
    simp [BF];omega
theorem cZ {S n:Nat} (h:S.testBit n=true):S|||pw n=S:=by
 apply CI
 grind [Kw]
theorem mY {S n:Nat} (h:S.testBit n=false):S|||pw n=S+pw n:=by
 have e:S%2^(n+1)=S%2^n+2^n*(S / 2^n%2):=Nat.mod_pow_succ;rw [Nat.testBit_eq_decide_div_mod_eq] at h
 have h0:S / 2^n%2=0:=by grind
 rw [h0,Nat.mul_zero,Ui] at e;have hp:0<2^n:=Nat.two_pow_pos n
 have hs:2^(n+1)=2^n+2^n:=Za
 have r1:S%2^(n+1)<2^n:=Za
 have e1:=Nat.two_pow_add_eq_or_of_lt (i:=n) r1 1;have e2:=Nat.two_pow_add_eq_or_of_lt (i:=n+1) (b:=2^n*1+S%2^(n+1)) Za (S / 2^(n+1));have e3:=Nat.two_pow_add_eq_or_of_lt (i:=n+1) (b:=S%2^(n+1)) Za (S / 2^(n+1));have e4:=Nat.div_add_mod S (2^(n+1));rw [pw]
 grind
theorem IC (r:Rte) (hl:r.visits.length<=1048576):PT 147 [.p (WM r)] [.p (.int .i64 (Jl r.visits).1),.p (.int .i64 (Jl r.visits).2)]:=by
 refine Ze [] Tryz.func147 rfl Zbq ?_;simp (disch:=omega) only [Tryz.f147,go_sem,seval];refine Zl [1] (fun k:Nat=> [(4,.p (.int .i64 (Xz (r.visits.take k):Nat))),(5,.p (.int .i64 k))]) (fun _=> [XA r]) (fun k=>k<=r.visits.length/\ ∀j,j<k->Hu (nth r.visits j)=true) (fun k=>r.visits.length-k) 0 Zb (Weak.mk ?_) ?_
 ·simp (disch:=omega) only [XA,Xz,Jj,UQ,go_sem,seval]
 ·rintro k ⟨hk,hno⟩
  have hlt:=A1 k hk fun v hv=>by
   obtain ⟨j,hj,rfl⟩:=ZU.1 hv
   grind [Zi]
  simp (disch:=omega) only [XA,go_sem,seval];refine cD ?_ ?_<;>intro h<;>simp (disch:=omega) only [Sh.out h,go_sem,seval,↓reduceIte]
  ·have hk2:k<r.visits.length:=Za
   have hbad:Hu (nth r.visits k)=false->Jl r.visits=(0,2):=fun h4=>by
    grind [Zu,Jl]
   have hs:=DU hk2
   have hp:(nth r.visits k).order<=62->pw (nth r.visits k).order.toNat<=4611686018427387904:=fun h=>by rw [<- GD];exact KD Za
   refine gF ?_ ?_<;>intro h1<;>simp (disch:=omega) only [Sh.out h1,go_sem,seval,↓reduceIte]
   ·have e:=hbad (by simp [Hu];omega);rw [e];exact we
   ·refine cD ?_ ?_<;>intro h2<;>simp (disch:=omega) only [Sh.out h2,go_sem,seval]
    ·have e:=hbad (by simp [Hu];omega);rw [e];exact we
    ·have h4:=hp Za;refine (JL (Xz (r.visits.take k)) (nth r.visits k).order hlt).use (Zd ?_)
     have hin:0<=(nth r.visits k).order/\(nth r.visits k).order<=62:=Za
     have hnh:nHas (Xz (r.visits.take k)) (nth r.visits k).order=(Xz (r.visits.take k)).testBit (nth r.visits k).order.toNat:=by simp [nHas,hin]
     rw [hnh];have hno2:=(Zr (p:=fun j=>Hu (nth r.visits j)=true)).2 ⟨hno,by simp [Hu];omega⟩
     have hlt2:=A1 (k+1) hk2 fun v hv=>by
      obtain ⟨j,hj,rfl⟩:=ZU.1 hv
      grind [Zi]
     refine Z0 ?_ ?_<;>intro h5
     ·have h6:(Xz (r.visits.take k)).testBit (nth r.visits k).order.toNat=false:=by grind
      rw [mY h6] at hs;rw [hs] at hlt2;exact ⟨k+1,⟨Za,hno2⟩,Za,Weak.mk (by simp (disch:=omega) only [hs,Int.natCast_add,go_sem,seval])⟩
     ·have h6:(Xz (r.visits.take k)).testBit (nth r.visits k).order.toNat=true:=by grind
      rw [cZ h6] at hs;exact ⟨k+1,⟨Za,hno2⟩,Za,Weak.mk (by simp (disch:=omega) only [hs,go_sem,seval])⟩
  ·have hkl:k=r.visits.length:=Za
   subst hkl
   have:r.visits.all Hu=true:=by
    rw [ZD];intro v hv;obtain ⟨j,hj,rfl⟩:=ZU.1 hv
    grind [Zi]
   have e:Jl r.visits=(((Xz r.visits:Nat):Int),0):=by simp [Jl,this]
   rw [e,X1];exact we
def Plc (x:Inst):Prop:= ∀o∈x.orders,-1<=o.pick.place/\ -1<=o.drp.place
theorem wK {l:List Vis} {v w:Vis} (h:vIx l v=vIx l w) (h0:0<=vIx l v):v=w:=by
 unfold vIx HR at h h0
 cases hv:l.findIdx? (fun u=>decide (v=u)) with
 | none=>grind
 | some i =>
  grind [V9]
theorem Kx (os:List Ord) (i:Nat):ZV os i= []\/ZV os i= [⟨i,false⟩]\/ZV os i= [⟨i,true⟩]\/ZV os i= [⟨i,false⟩,⟨i,true⟩]:=by
 grind [ZV]
theorem nJ {l own:List Vis} (ho:own= []\/(∃v,own= [v])\/ ∃v w,own= [v,w]/\v≠w) :
  Q7 l (-1) own=(Up l own&& !(decide (own.length=2)&&decide (vIx l (nth own 1)<vIx l (nth own 0)))):=by
 rcases ho with rfl | ⟨v,rfl⟩ | ⟨v,w,rfl,hne⟩
 ·rfl
 ·grind [Q7,Up]
 ·have hne2:0<=vIx l v->vIx l v≠vIx l w:=fun h0 h=>hne (wK h h0);have h1:= @pR l v;have h2:= @pR l w;rw [Wz];simp [Q7,Up,nth];omega
theorem OZ (os:List Ord) (i:Nat):ZV os i= []\/(∃v,ZV os i= [v])\/ ∃v w,ZV os i= [v,w]/\v≠w:=by
 grind [Kx]
theorem FA {α:Type} [Inhabited α] {l:List α} {f:α->Bool} {k:Nat} (hk:k<l.length) (h:f (nth l k)=false):l.all f=false:=by
 grind [Zu]
theorem I5 {α:Type} [Inhabited α] {l:List α} {f:α->Bool} (h: ∀j,j<l.length->f (nth l j)=true):l.all f=true:=by
 rw [ZD];intro v hv;obtain ⟨j,hj,rfl⟩:=ZU.1 hv
 grind [Zi]
theorem dV (x:Inst) (l:List Vis) (c:Bool) (hl:l.length<=1048576) (ho:x.orders.length<=1048576) (hp:Plc x) (hv: ∀v∈l,0<=v.order/\v.order<x.orders.length) :
  PC 225 [.p (Zs x),.p (.list c (l.map Xa))] (.bool (l.all (pairB x.orders l))):=by
 refine Zc Tryz.func225 rfl Zcj ?_;simp (disch:=omega) only [Tryz.f225,go_sem,seval];refine Zl [1,2] (fun k:Nat=> [(5,.p (.int .i64 k))]) (fun _=> [Zf x]) (fun k=>k<=l.length/\ ∀j,j<k->pairB x.orders l (nth l j)=true) (fun k=>l.length-k) 0 Zb (Weak.mk ?_) ?_
 ·simp (disch:=omega) only [Zf,go_sem,seval]
 ·rintro k ⟨hk,hno⟩;refine YV ?_;refine cD ?_ ?_<;>intro h<;>simp (disch:=omega) only [Sh.out h,go_sem,seval,↓reduceIte]
  ·have hk2:k<l.length:=Za
   obtain ⟨v1,v2⟩:=hv _ (Zu hk2);obtain ⟨i,hi⟩: ∃i:Nat,(nth l k).order=(i:Int):=⟨(nth l k).order.toNat,Za⟩;rw [hi] at v1 v2
   have hpb:pairB x.orders l (nth l k)=(decide (0<=vIx (ZV x.orders i) (nth l k))&&Q7 l (-1) (ZV x.orders i)):=by rw [pairB,hi];rfl
   have hown:=OZ x.orders i;rw [nJ hown] at hpb;refine Xj ?_;simp (disch:=omega) only [hi,go_sem,seval];refine Zo (D6 x i Za ho hp) (Zd ?_);have hvl:=WY x.orders i;generalize ZV x.orders i=own at hvl hpb;have hix:=Qz own false (nth l k) Za;rw [Sy,hi] at hix;refine Xj ?_;simp (disch:=omega) only [hi,go_sem,seval];refine Zo (hix) (Zd ?_);refine gF ?_ ?_<;>intro h2<;>simp (disch:=omega) only [Sh.out h2,go_sem,seval]
   ·grind [FA]
   ·have h3:0<=vIx own (nth l k):=Za
    have hgo:pairB x.orders l (nth l k)=true-> ∀j,j<k+1->pairB x.orders l (nth l j)=true:=fun e=>Zr.2 ⟨hno,e⟩;refine Zo (Eu l own c false hl Za) (Zd ?_);refine gF ?_ ?_<;>intro h4<;>simp (disch:=omega) only [Sh.out h4,go_sem,seval]
    ·grind [FA]
    ·have h5:Up l own=true:=by grind
     rw [h5] at hpb;refine Jv ?_ ?_<;>intro h6
     ·have h7:own.length=2:=Za
      refine Zo (Qz l c (nth own 0) hl) (Zd ?_);refine Zo (Qz l c (nth own 1) hl) (Zd ?_);refine Z0 ?_ ?_<;>intro h8
      ·grind [FA]
      ·exact ⟨k+1,⟨Za,hgo (by grind)⟩,Za,wk⟩
     ·exact ⟨k+1,⟨Za,hgo (by grind)⟩,Za,wk⟩
  grind [I5]
def apB (x:Inst) (S:Nat):Bool:=x.apart.any fun p=>nHas S p.1&&nHas S p.2
theorem oC (x:Inst) (S:Nat) (hS:S<9223372036854775808) (ha:x.apart.length<=1048576):PC 226 [.p (Zs x),.p (.int .i64 (S:Nat))] (.bool (!apB x S)):=by
 refine Zc Tryz.func226 rfl Zck ?_;simp (disch:=omega) only [Tryz.f226,go_sem,seval];refine Zl [1,2] (fun k:Nat=> [(5,.p (.int .i64 k))]) (fun _=> [Zf x]) (fun k=>k<=x.apart.length/\ ∀j,j<k->(nHas S (nth x.apart j).1&&nHas S (nth x.apart j).2)=false) (fun k=>x.apart.length-k) 0 Zb (Weak.mk ?_) ?_
 ·simp (disch:=omega) only [Zf,go_sem,seval]
 ·rintro k ⟨hk,hno⟩;refine YV ?_;refine cD ?_ ?_<;>intro h<;>simp (disch:=omega) only [Sh.out h,go_sem,seval,↓reduceIte]
  ·have hk2:k<x.apart.length:=Za
   refine (JL S (nth x.apart k).1 hS).use (Zd ?_);refine Jv ?_ ?_<;>intro h2
   ·refine (JL S (nth x.apart k).2 hS).use (Zd ?_);refine Z0 ?_ ?_<;>intro h3
    ·grind [apB,VG]
    ·exact ⟨k+1,⟨Za,Zr.2 ⟨hno,by grind⟩⟩,Za,wk⟩
   ·exact ⟨k+1,⟨Za,Zr.2 ⟨hno,by rw [h2];rfl⟩⟩,Za,wk⟩
  grind [apB,Q6]
def KA (l:List Vis) (a b:Int) (j k:Nat):Bool:=decide ((nth l j).order=a)&&decide ((nth l k).order=b)
def QX (S:Nat) (l:List Vis) (p:Int×Int):Bool:= !nHas S p.2||(nHas S p.1&&(List.range l.length).all fun j=>(List.range j).all fun k=> !KA l p.1 p.2 j k)
theorem dL (x:Inst) (S:Nat) (l:List Vis) (c:Bool) (hS:S<9223372036854775808) (hl:l.length<=1048576) (hb:x.before.length<=1048576):PC 227 [.p (Zs x),.p (.int .i64 (S:Nat)),.p (.list c (l.map Xa))] (.bool (x.before.all (QX S l))):=by
 refine Zc Tryz.func227 rfl Zcl ?_;simp (disch:=omega) only [Tryz.f227,go_sem,seval];refine Zl [1,2,3] (fun k:Nat=> [(7,.p (.int .i64 k))]) (fun _=> [Zf x]) (fun k=>k<=x.before.length/\ ∀j,j<k->QX S l (nth x.before j)=true) (fun k=>x.before.length-k) 0 Zb (Weak.mk ?_) ?_
 ·simp (disch:=omega) only [Zf,go_sem,seval]
 ·rintro i ⟨hi,hno⟩;refine YV ?_;refine cD ?_ ?_<;>intro h<;>simp (disch:=omega) only [Sh.out h,go_sem,seval,↓reduceIte]
  ·have hi2:i<x.before.length:=Za
   have hgo:QX S l (nth x.before i)=true-> ∀j,j<i+1->QX S l (nth x.before j)=true:=fun e=>Zr.2 ⟨hno,e⟩;have hbad:QX S l (nth x.before i)=false->x.before.all (QX S l)=false:=fun e=>FA hi2 e;have hdef:QX S l (nth x.before i)=(!nHas S (nth x.before i).2||(nHas S (nth x.before i).1&&(List.range l.length).all fun j=>(List.range j).all fun k=> !KA l (nth x.before i).1 (nth x.before i).2 j k)):=rfl;generalize QX S l (nth x.before i)=R at hgo hbad hdef;generalize nth x.before i=p at hdef ⊢;refine (JL S p.2 hS).use (Zd ?_)
   refine Z0 ?_ ?_<;>intro h2
   ·have h3:nHas S p.2=false:=by grind
    exact ⟨i+1,⟨Za,hgo (by grind)⟩,Za,wk⟩
   ·have h3:nHas S p.2=true:=by grind
    refine (JL S p.1 hS).use (Zd ?_);refine cD ?_ ?_<;>intro h4<;>simp (disch:=omega) only [Sh.out h4,go_sem,seval]
    ·grind
    ·have h5:nHas S p.1=true:=by grind
     rw [h3,h5] at hdef;simp only [Yx,Bool.false_or,VQ] at hdef;refine Zl [1,2,3,7,8,9] (fun k:Nat=> [(10,.p (.int .i64 k))]) (fun _=> [Zf x]) (fun k=>k<=l.length/\ ∀j,j<k-> ∀q,q<j->KA l p.1 p.2 j q=false) (fun k=>l.length-k) 0 Zb (Weak.mk ?_) ?_
     ·simp (disch:=omega) only [Zf,go_sem,seval]
     ·rintro j ⟨hj,hnj⟩;refine YV ?_;refine Z0 ?_ ?_<;>intro h6
      ·have hj2:j<l.length:=Za
       refine Zl [1,2,3,7,8,9,10] (fun k:Nat=> [(11,.p (.int .i64 k))]) (fun _=> [Zf x]) (fun k=>k<=j/\ ∀q,q<k->KA l p.1 p.2 j q=false) (fun k=>j-k) 0 Zb (Weak.mk ?_) ?_
       ·simp (disch:=omega) only [Zf,go_sem,seval]
       ·rintro k ⟨hk,hnk⟩;refine YV ?_;refine Z0 ?_ ?_<;>intro h7
        ·have hk2:k<j:=Za
         refine Jv ?_ ?_<;>intro h8
         ·refine Z0 ?_ ?_<;>intro h9
          ·rw [hbad (by
            rw [hdef,List.all_eq_false];refine ⟨j,by grind,?_⟩;rw [UN,List.all_eq_false]
            exact ⟨k,by grind,by simp [KA,h8,h9]⟩)]
          ·exact ⟨k+1,⟨Za,Zr.2 ⟨hnk,by simp [KA,h9]⟩⟩,Za,wk⟩
         ·exact ⟨k+1,⟨Za,Zr.2 ⟨hnk,by simp [KA,h8]⟩⟩,Za,wk⟩
        ·have hkl:k=j:=Za
         subst hkl;exact ⟨k+1,⟨Za,(Zr (p:=fun j=> ∀q,q<j->KA l p.1 p.2 j q=false)).2 ⟨hnj,hnk⟩⟩,Za,wk⟩
      ·have hjl:j=l.length:=Za
       subst hjl;refine ⟨i+1,⟨Za,hgo ?_⟩,Za,wk⟩
       grind
  grind [I5]
theorem oK (x:Inst) (i:Nat) (l:List Vis) (c:Bool) (hl:l.length<=1048576) (ho:x.orders.length<=1048576) (hbl:x.before.length<=1048576) (hp:Plc x) (hb: ∀p∈x.before,0<=p.1/\p.1<x.orders.length) (hi:i<=1048576) :
  PC 188 [.p (Zs x),.p (.int .i64 (i:Nat)),.p (.list c (l.map Xa))] (.bool (x.before.all (KO x.orders l (i:Int)))):=by
 refine Zc Tryz.func188 rfl ZbO ?_;simp (disch:=omega) only [Tryz.f188,go_sem,seval];refine Zl [1,2,3] (fun k:Nat=> [(7,.p (.int .i64 k))]) (fun _=> [Zf x]) (fun k=>k<=x.before.length/\ ∀j,j<k->KO x.orders l (i:Int) (nth x.before j)=true) (fun k=>x.before.length-k) 0 Zb (Weak.mk ?_) ?_
 ·simp (disch:=omega) only [Zf,go_sem,seval]
 ·rintro k ⟨hk,hno⟩;refine YV ?_;refine cD ?_ ?_<;>intro h<;>simp (disch:=omega) only [Sh.out h,go_sem,seval,↓reduceIte]
  ·have hk2:k<x.before.length:=Za
   obtain ⟨b1,b2⟩:=hb _ (Zu hk2);obtain ⟨a,hao⟩: ∃a:Nat,(nth x.before k).1=(a:Int):=⟨(nth x.before k).1.toNat,Za⟩;have hva:=D6 x a Za ho hp;rw [<- hao] at hva
   have hdef:KO x.orders l (i:Int) (nth x.before k)=(decide ((nth x.before k).2≠(i:Int))||Up l (ZV x.orders a)):=by rw [KO,hao];rfl
   refine Jv ?_ ?_<;>intro h2
   ·refine gF ?_ ?_<;>intro h3<;>simp (disch:=omega) only [Sh.out h3,go_sem,seval,↓reduceIte]
    ·omega
    ·refine gF ?_ ?_<;>intro h4<;>simp (disch:=omega) only [Sh.out h4,go_sem,seval,↓reduceIte]
     ·omega
     ·refine (hva).use (Zd ?_);have hvl:=WY x.orders a;refine (Eu l (ZV x.orders a) c false hl Za).use (Zd ?_);refine Z0 ?_ ?_<;>intro h5
      ·grind [FA]
      ·have h6:Up l (ZV x.orders a)=true:=by grind
       exact ⟨k+1,⟨Za,Zr.2 ⟨hno,by grind⟩⟩,Za,wk⟩
   ·exact ⟨k+1,⟨Za,Zr.2 ⟨hno,by grind⟩⟩,Za,wk⟩
  grind [I5]
theorem Mo (S:Nat) (i:Int):sHas (S:Int) i=nHas S i:=by
 by_cases h:0<=i/\i<=62
 ·obtain ⟨k,rfl⟩: ∃k:Nat,i=(k:Int):=⟨i.toNat,Za⟩
  grind [WV,NY]
 ·have h2:nHas S i=false:=by simp only [nHas,h,Ki,QQ]
  grind [sHas]
theorem Gm {S:Nat} {i:Int} :nHas S i=true↔0<=i/\i<=62/\S.testBit i.toNat=true:=by simp [nHas,QS]
theorem PE {S n i:Nat} (h:S / pw n=0) (hi:S.testBit i=true):i<n:=by
 rcases Wm i n with h2 | h2
 ·exact h2
 ·have h3:S<2^n:=by
   have:=(Nat.div_eq_zero_iff).1 h;rcases this with h4 | h4
   ·grind [GE]
   ·exact h4
  grind [UL,Yw,AE]
theorem JF {S:Nat} {a:Int} :a∈X6 (S:Int) 63↔ ∃i:Nat,a=(i:Int)/\i<63/\S.testBit i=true:=by
 simp only [X6,XH,Jk,ZO]
 constructor
 ·rintro ⟨i,⟨h1,h2⟩,rfl⟩;rw [WV S i Za] at h2
  grind
 ·rintro ⟨i,rfl,h1,h2⟩;exact ⟨i,⟨h1,by grind [WV]⟩,rfl⟩
structure Alw (x:Inst) (S:Nat):Prop where
 off: ∀i,i<x.orders.length->S.testBit i=true->(nth x.orders i).off=false
 apart:apB x S=false
 closed: ∀p∈x.before,nHas S p.2=true->nHas S p.1=true
 acyc: ∀i,i<x.orders.length->S.testBit i=true-> ¬Ch x.before i i
theorem VN {c:Prop} [Decidable c] {a b:Int} (ha:a≠0):(if c then a else b)=0↔ ¬c/\b=0:=by
 grind
theorem QM {x:Inst} {S:Nat} (hn:x.orders.length<=60) (hS:S / pw x.orders.length=0) (hv:Val x.orders.length x.before):WC x.orders x.apart x.before (S:Int)=0↔Alw x S:=by
 have hlt: ∀i,S.testBit i=true->i<x.orders.length:=fun i h=>PE hS h
 have e0: ¬(S:Int)<0:=Za
 unfold WC;rw [if_neg e0,VN Za,VN Za,VN Za,VN Za,VN Za];simp only [and_true]
 constructor
 ·rintro ⟨_,h2,h3,h4,h5⟩;simp only [UN] at h2 h3 h4 h5;rw [Vc] at h2 h4 h5;refine ⟨fun i hi hb=> ?_,?_,fun p hp hb=> ?_,fun i hi hb hc=> ?_⟩
  ·have:=h2 (i:Int) (JF.2 ⟨i,rfl,Za,hb⟩)
   grind
  ·grind [apB,Mo]
  ·have:=h4 p hp
   simp_all [Mo]
  ·have:=h5 (i:Int) (JF.2 ⟨i,rfl,Za,hb⟩)
   grind [WV,Qc]
 ·rintro ⟨h1,h2,h3,h4⟩;refine ⟨?_,?_,?_,?_,?_⟩
  ·simp only [UN];rw [Vc];intro a ha;obtain ⟨i,rfl,h5,h6⟩:=JF.1 ha
   grind
  ·simp only [UN];rw [Vc];intro a ha;obtain ⟨i,rfl,h5,h6⟩:=JF.1 ha
   grind
  ·simp only [Mo,UN];exact h2
  ·simp only [UN]
   grind [Mo]
  ·simp only [UN];rw [Vc];intro a ha;obtain ⟨i,rfl,h5,h6⟩:=JF.1 ha
   grind [WV,Qc]
theorem HS {f g:Nat->Bool} {b:Nat} : ∀(l:List Nat),(∀a,f a=true->g a=true)->f b=false->g b=true->b∈l->(l.filter f).length<(l.filter g).length
 | [],_,_,_,h=>by simp at h
 | x::l,hfg,hf,hg,h=>by
  have hle: ∀l:List Nat,(l.filter f).length<=(l.filter g).length:=by
   intro l
   induction l with
   | nil=>simp
   | cons y l ih =>
    grind
  simp only [E5];rcases Z7.1 h with rfl | h
  ·grind
  ·have:=HS l hfg hf hg h
   grind
theorem PQ {n:Nat} {be:List (Int×Int)} (hv:Val n be) {P:Nat->Prop} (hP: ∀i,P i->i<n/\ ¬Ch be i i) {i:Nat} (hi:P i): ∃i,P i/\ ∀p∈be,p.2=(i:Int)-> ¬P p.1.toNat:=by
 suffices h: ∀(k i:Nat),P i->((List.range n).filter fun a=>(nth (Ky n be) i).testBit a).length<k-> ∃i,P i/\ ∀p∈be,p.2=(i:Int)-> ¬P p.1.toNat from h _ i hi (Nat.lt_succ_self _)
 intro k
 induction k with
 | zero=>omega
 | succ k ih =>
  intro i hi hk
  by_cases h: ∃p∈be,p.2=(i:Int)/\P p.1.toNat
  ·obtain ⟨p,hp,h1,h2⟩:=h;obtain ⟨v1,v2,v3,v4⟩:=hv p hp;have hE:Ed be p.1.toNat i:=⟨p,hp,Za,h1⟩;refine ih p.1.toNat h2 (UL (HS (b:=p.1.toNat) _ (fun a ha=> ?_) ?_ ?_ ?_) (by omega:((List.range n).filter fun a=>(nth (Ky n be) i).testBit a).length<=k))
   ·exact (Qc hv a i (hP i hi).1).2 (((Qc hv a _ (hP _ h2).1).1 ha).more hE)
   ·grind [Qc]
   ·exact (Qc hv _ i (hP i hi).1).2 (.one hE)
   grind
  grind
theorem WH {l:List Vis} {v:Vis} :0<=vIx l v↔v∈l:=by
 grind [PS,vIx]
theorem Zeo {l:List Vis} {v:Vis} :vIx l v<0↔v ∉ l:=by rw [<- WH];omega
theorem T1 {l own:List Vis} :Up l own=true↔ ∀w∈own,w∈l:=by
 grind [Up,WH]
theorem iD {os:List Ord} {l:List Vis} {o:Int} {p:Int×Int} :KO os l o p=true↔(p.2=o-> ∀w∈ZV os p.1.toNat,w∈l):=by
 rw [KO,Vr,T1,Zq]
 grind
theorem iE {x:Inst} {l:List Vis} {o:Int} :x.before.all (KO x.orders l o)=true↔ ∀p∈x.before,p.2=o-> ∀w∈ZV x.orders p.1.toNat,w∈l:=by
 simp_all [iD]
def Vne (x:Inst):Prop:= ∀i,i<x.orders.length->ZV x.orders i≠ []
theorem nX {l own:List Vis} (ho:own= []\/(∃v,own= [v])\/ ∃v w,own= [v,w]/\v≠w) {k:Nat} (hk:k<own.length):KJ l (nth own k) own=(decide (k=0)||decide (0<=vIx l (nth own 0))):=by
 rcases ho with rfl | ⟨v,rfl⟩ | ⟨v,w,rfl,hne⟩
 ·simp at hk
 ·grind [KJ,nth]
 ·have:k=0\/k=1:=by grind
  rcases this with rfl | rfl
  ·simp [KJ,nth]
  grind [KJ,nth]
theorem dS (x:Inst) (S:Nat) (l:List Vis) (c:Bool) (hS:S<9223372036854775808) (hl:l.length<=1048576) (ho:x.orders.length<=60) (hbl:x.before.length<=1048576) (hp:Plc x) (hb: ∀p∈x.before,0<=p.1/\p.1<x.orders.length) :
  ACalls Tryz.prog 146 [.p (Zs x),.p (.int .i64 (S:Nat)),.p (.list c (l.map Xa))] [] fun y H'=> ∃m:List Vis,m=nextU x S l x.orders.length/\y= .sl 0 0 m.length m.length/\H'= [.elems 2 (m.map Xa)]:=by
 refine ZI [2] Tryz.func146 rfl Zbp ?_;simp (disch:=omega) only [Tryz.f146,go_sem,seval];refine Zp (Weak.ofNil 7 2 (by simp (disch:=omega) only [go_sem,seval]) Zb (Weak.refl _ _ _)) ?_;refine Zh [] _ _ _ _ (Zd ?_);refine Zl [1,2,3] (fun q:Nat×List Vis=> [(7,.sl 1 0 q.2.length q.2.length),(8,.p (.int .i64 q.1))]) (fun q=> [Zf x,.elems 2 (q.2.map Xa)]) (fun q=>q.1<=x.orders.length/\q.2=nextU x S l q.1) (fun q=>x.orders.length-q.1) (0,[]) ⟨Zb,by simp [nextU]⟩ (Weak.mk ?_) ?_
 ·simp (disch:=omega) only [Zf,go_sem,seval]
 ·rintro ⟨i,m⟩ ⟨hi,hm⟩;simp only at hi hm
  have hml:m.length<=2*i:=by grind [JI]
  have hsc:=BJ x S l i;refine YV ?_;refine cD ?_ ?_<;>intro h<;>simp (disch:=omega) only [Sh.out h,go_sem,seval,↓reduceIte]
  ·have hi2:i<x.orders.length:=Za
   have hskip:Uv x S l i= []->(i+1,m).2=nextU x S l (i+1):=fun e=>by grind
   refine (JL S (i:Int) hS).use (Zd ?_);rw [NY Za];refine Lr ?_ ?_<;>intro h2
   ·have hbit:S.testBit i=false:=by grind
    exact ⟨(i+1,m),⟨Za,hskip (by simp [Uv,hbit])⟩,Za,wk⟩
   ·have hbit:S.testBit i=true:=by grind
    refine Lr ?_ ?_<;>intro h3
    ·exact ⟨(i+1,m),⟨Za,hskip (by simp [Uv,h3])⟩,Za,wk⟩
    ·have e:Uv x S l i=(ZV x.orders i).filter (Y7 x l):=by grind [Uv]
     refine (oK x i l c hl Za hbl hp hb Za).use (Zd ?_);refine Z0 ?_ ?_<;>intro h4
     ·have h5:x.before.all (KO x.orders l (i:Int))=false:=by grind
      refine ⟨(i+1,m),⟨Za,hskip ?_⟩,Za,wk⟩
      grind [List.filter_eq_nil_iff,Y7,Yk]
     ·have h5:x.before.all (KO x.orders l (i:Int))=true:=by grind
      refine (D6 x i hi2 Za hp).use (Zd ?_);have hvl:=WY x.orders i;have hvo: ∀v∈ZV x.orders i,v.order=i:=fun v hv=>Yk hv;have htwo:=OZ x.orders i
      have hrd: ∀k,k<(ZV x.orders i).length->Y7 x l (nth (ZV x.orders i) k)=(decide (vIx l (nth (ZV x.orders i) k)<0)&&(decide (k=0)||decide (0<=vIx l (nth (ZV x.orders i) 0)))):=fun k hk=>by
       simp_all [Y7,Zu,nX]
      generalize hown:ZV x.orders i=own at hvl e hvo hrd ⊢;refine Zl [1,2,3,8,9] (fun q:Nat×List Vis=> [(7,.sl 1 0 q.2.length q.2.length),(10,.p (.int .i64 q.1))]) (fun q=> [Zf x,.elems 2 (q.2.map Xa)]) (fun q=>q.1<=own.length/\q.2=m++(own.take q.1).filter (Y7 x l)) (fun q=>own.length-q.1) (0,m) ⟨Zb,Zb⟩ (Weak.mk ?_) ?_
      ·simp (disch:=omega) only [Zf,go_sem,seval]
      ·rintro ⟨j,m2⟩ ⟨hj,hm2⟩;simp only at hj hm2
       have hm2l:m2.length<=2*i+2:=by
        grind
       refine YV ?_;refine Z0 ?_ ?_<;>intro h6
       ·have hj2:j<own.length:=Za
        have htk:own.take (j+1)=own.take j++ [nth own j]:=by rw [X3 hj2,Zi hj2]
        have hr:=hrd j hj2
        have hyes:Y7 x l (nth own j)=true->((j+1,m2++ [nth own j]):Nat×List Vis).2=m++(own.take (j+1)).filter (Y7 x l):=fun h7=>by
         grind
        have hno:Y7 x l (nth own j)=false->((j+1,m2):Nat×List Vis).2=m++(own.take (j+1)).filter (Y7 x l):=fun h7=>by
         grind
        refine (Qz l c (nth own j) hl).use (Zd ?_);refine Jv ?_ ?_<;>intro h7
        ·refine Lr ?_ ?_<;>intro h8
         ·exact ⟨(j+1,m2++ [nth own j]),⟨Za,hyes (by grind)⟩,Za,wk⟩
         ·refine (Qz l c (nth own 0) hl).use (Zd ?_);refine Z0 ?_ ?_<;>intro h9
          ·exact ⟨(j+1,m2++ [nth own j]),⟨Za,hyes (by grind)⟩,Za,wk⟩
          ·exact ⟨(j+1,m2),⟨Za,hno (by grind)⟩,Za,wk⟩
        ·exact ⟨(j+1,m2),⟨Za,hno (by grind)⟩,Za,wk⟩
       ·have hjl:j=own.length:=Za
        subst hjl;exact ⟨(i+1,m2),⟨Za,by grind⟩,Za,wk⟩
  ·have hkn:i=x.orders.length:=Za
   subst hkn;exact ⟨m,hm,1,by simp (disch:=omega) only [go_sem,seval]⟩
theorem Ts (x:Inst) (S:Nat) (l:List Vis) (c:Bool) (hS:S<9223372036854775808) (hl:l.length<=1048576) (ho:x.orders.length<=60) (hbl:x.before.length<=1048576) (hp:Plc x) (hb: ∀p∈x.before,0<=p.1/\p.1<x.orders.length) :
  PC 146 [.p (Zs x),.p (.int .i64 (S:Nat)),.p (.list c (l.map Xa))] (.list false ((nextU x S l x.orders.length).map Xa)) :=
 ACalls.frozen (S:=2) (n:=(nextU x S l x.orders.length).length) Zb ((dS x S l c hS hl ho hbl hp hb).mono fun y H' ⟨m,hm,h1,h2⟩=>by grind)
inductive Gr (x:Inst) (S:Nat):List Vis->Prop where
 | nil:Gr x S []
 | snoc {l:List Vis} {v:Vis} (h:Gr x S l) (hv:v∈nextU x S l x.orders.length):Gr x S (l++ [v])
theorem RT (os:List Ord) (i:Nat):(ZV os i).Nodup:=by
 grind [Kx]
theorem nW {os:List Ord} {i:Nat} {l:List Vis} {v:Vis} (hv:v∈ZV os i):KJ l v (ZV os i)=true↔(v.drp=true->⟨i,false⟩∈ZV os i->⟨i,false⟩∈l):=by
 rcases Kx os i with h | h | h | h<;>rw [h] at hv ⊢ <;>simp at hv
 ·grind [KJ]
 ·grind [KJ]
 ·rcases hv with rfl | rfl
  ·simp [KJ]
  ·simp [KJ,WH]
theorem Vt {x:Inst} {l:List Vis} {v:Vis} {i:Nat} (hv:v∈ZV x.orders i):Y7 x l v=true↔v ∉ l/\(v.drp=true->⟨i,false⟩∈ZV x.orders i->⟨i,false⟩∈l)/\ ∀p∈x.before,p.2=(i:Int)-> ∀w∈ZV x.orders p.1.toNat,w∈l:=by
 have h:=Yk hv;rw [Y7,h,XD,Zv,Zv,Zq,Zeo,nW hv,iE,QS]
theorem VR {x:Inst} {S:Nat} {l:List Vis} {v:Vis} {k:Nat} :v∈nextU x S l k↔ ∃i,i<k/\S.testBit i=true/\(nth x.orders i).off=false/\v∈ZV x.orders i/\Y7 x l v=true:=by
 rw [nextU,X0]
 constructor
 ·grind [Uv]
 ·rintro ⟨i,hi,h1,h2,h3,h4⟩;exact ⟨i,by grind,by simp_all [Uv]⟩
def Bw (x:Inst) (S k:Nat):List Vis:=(List.range k).flatMap fun i=>if S.testBit i=true then ZV x.orders i else []
theorem HC (x S k):Bw x S (k+1)=Bw x S k++if S.testBit k=true then ZV x.orders k else []:=by simp [Bw,Yh]
theorem Jr (x S): ∀k,(Bw x S k).length=Ak x S k
 | 0=>by rfl
 | k+1=>by
  rw [HC,Ba,ZA,Jr x S k]
  split<;>simp
theorem WT {x S k v} :v∈Bw x S k↔ ∃i,i<k/\S.testBit i=true/\v∈ZV x.orders i:=by
 simp_all [Bw]
theorem Bx (x S): ∀k,(Bw x S k).Nodup
 | 0=>by simp [Bw]
 | k+1=>by
  rw [HC,CJ];refine ⟨Bx x S k,?_,fun a ha b hb=> ?_⟩
  ·grind [RT]
  ·obtain ⟨i,hi,_,h2⟩:=WT.1 ha
   split at hb
   ·have h3:=Yk h2;have h4:=Yk hb
    grind
   ·simp at hb
theorem Gr.nodup {x S l} (h:Gr x S l):l.Nodup:=by
 induction h with
 | nil=>simp
 | snoc _ hv ih =>
  obtain ⟨i,_,_,_,h4,h5⟩:=VR.1 hv;rw [CJ];refine ⟨ih,Zb,fun a ha b hb=> ?_⟩;simp at hb;subst hb;exact fun e=>((Vt h4).1 h5).1 (e ▸ ha)
theorem Gr.sub {x S l} (h:Gr x S l): ∀v∈l,v∈Bw x S x.orders.length:=by
 induction h with
 | nil=>simp
 | snoc _ hv ih =>
  obtain ⟨i,h1,h2,_,h4,_⟩:=VR.1 hv;intro w hw;rcases Xe.1 hw with hw | hw
  ·exact ih w hw
  ·simp at hw;subst hw;exact WT.2 ⟨i,h1,h2,h4⟩
theorem Fo {α:Type} [DecidableEq α] {l m:List α} (hl:l.Nodup) (h: ∀v∈l,v∈m):l.length<=m.length:=List.Nodup.length_le_of_subset hl h
theorem Zed {α:Type} [DecidableEq α] {l m:List α} (hl:l.Nodup) (h: ∀v∈l,v∈m) (hm:m.length<=l.length): ∀v∈m,v∈l:=fun v hv=>by
 refine Je fun hno=> ?_
 have:(v::l).length<=m.length:=Fo (by grind) (fun w hw=>by
  grind)
 grind
theorem Gr.len {x S l} (h:Gr x S l):l.length<=Ak x S x.orders.length:=by
 rw [<- Jr];exact Fo h.nodup h.sub
theorem Gr.full {x S l} (h:Gr x S l) (hl:l.length=Ak x S x.orders.length): ∀v∈Bw x S x.orders.length,v∈l:=Zed h.nodup h.sub (by rw [Jr];omega)
theorem Gr.more {x S l} (ha:Alw x S) (hn:x.orders.length<=60) (hv:Val x.orders.length x.before) (hm: ∃v∈Bw x S x.orders.length,v ∉ l): ∃v,v∈nextU x S l x.orders.length:=by
 obtain ⟨v,hva,hvl⟩:=hm;obtain ⟨i,h1,h2,h3⟩:=WT.1 hva;obtain ⟨j,⟨j1,j2,w,j3,j4⟩,hj⟩:=PQ hv (P:=fun i=>i<x.orders.length/\S.testBit i=true/\ ∃w∈ZV x.orders i,w ∉ l) (fun i hi=>⟨hi.1,ha.acyc i hi.1 hi.2.1⟩) ⟨h1,h2,v,h3,hvl⟩
 have hpre: ∀p∈x.before,p.2=(j:Int)-> ∀w∈ZV x.orders p.1.toNat,w∈l:=fun p hp e w hw=>by
  refine Je fun hno=> ?_;obtain ⟨v1,v2,v3,v4⟩:=hv p hp;have:=ha.closed p hp (Gm.2 ⟨Za,Za,by grind⟩);exact hj p hp e ⟨Za,(Gm.1 this).2.2,w,hw,hno⟩
 by_cases hf:(⟨j,false⟩:Vis)∈ZV x.orders j/\(⟨j,false⟩:Vis) ∉ l
 ·exact ⟨⟨j,false⟩,VR.2 ⟨j,j1,j2,ha.off j j1 j2,hf.1,(Vt hf.1).2 ⟨hf.2,Zb,hpre⟩⟩⟩
 ·refine ⟨w,VR.2 ⟨j,j1,j2,ha.off j j1 j2,j3,(Vt j3).2 ⟨j4,fun _ hq=> ?_,hpre⟩⟩⟩
  grind
theorem Gr.next_nil {x S l} (h:Gr x S l) (ha:Alw x S) (hn:x.orders.length<=60) (hv:Val x.orders.length x.before):nextU x S l x.orders.length= []↔l.length=Ak x S x.orders.length:=by
 constructor
 ·intro e;refine Je fun hno=> ?_
  have hex: ∃v∈Bw x S x.orders.length,v ∉ l:=Je fun hno2=>hno (by
   have h1: ∀v∈Bw x S x.orders.length,v∈l:=fun v hv=>Je fun h3=>hno2 ⟨v,hv,h3⟩;have:=Fo (Bx x S _) h1;rw [Jr] at this;have:=h.len
   omega)
  obtain ⟨v,hv⟩:=Gr.more (l:=l) ha hn hv hex
  grind
 ·intro e;rw [List.eq_nil_iff_forall_not_mem];intro v hv;obtain ⟨i,h1,h2,_,h4,h5⟩:=VR.1 hv;exact ((Vt h4).1 h5).1 (h.full e v (WT.2 ⟨i,h1,h2,h4⟩))
theorem TJ {x:Inst} {S:Nat} (hne:Vne x) (hS:S / pw x.orders.length=0) (h0:S≠0):0<Ak x S x.orders.length:=by
 have: ∃i,S.testBit i=true:=by
  refine Je fun hno=>h0 (CI fun i=> ?_)
  grind
 obtain ⟨i,hi⟩:=this;have hlt:=PE hS hi;obtain ⟨v,hv⟩:=List.exists_mem_of_ne_nil _ (hne i hlt);have hm:v∈Bw x S x.orders.length:=WT.2 ⟨i,hlt,hi,hv⟩
 grind [Jr]
def ext (nx:List Vis->List Vis):Nat->List Vis->List (List Vis)->List (List Vis)
 | 0,l,outs=>if 8192<outs.length then outs else outs++ [l]
 | f+1,l,outs=>if 8192<outs.length then outs else (nx l).foldl (fun acc v=>ext nx f (l++ [v]) acc) outs
theorem aK {S n:Nat} (hS:S<9223372036854775808) (h: ∀j,j<63->S.testBit j=true->j<n):S / pw n=0:=by
 refine QP ?_;refine Nat.lt_pow_two_of_testBit S fun i hi=> ?_;rcases Wm i 63 with h2 | h2
 ·grind
 ·exact AE (UL hS (Yw Za h2:2^63<=2^i))
def Oi (x:Inst) (l:List Vis):Int :=
 if l.any (WJ x)=true then 2
 else if l.length=0 then 2
 else if (l.any fun v=>(nth x.orders v.order.toNat).off)=true then 9
 else if ((List.range l.length).any fun i=>decide (vIx l (nth l i)≠(i:Int)))=true then 6
 else if l.all (pairB x.orders l)=false then 19
 else if apB x (Xz l)=true then 20
 else if x.before.all (QX (Xz l) l)=false then 21
 else 0
theorem Rx (x:Inst) (r:Rte) (ho:x.orders.length<=60) (hl:r.visits.length<=1048576) (hap:x.apart.length<=1048576) (hbe:x.before.length<=1048576) (hp:Plc x) :
  PC 205 [.p (Zs x),.p (WM r)] (.int .i64 (Oi x r.visits)):=by
 refine Zc Tryz.func205 rfl Zb1 ?_;simp (disch:=omega) only [Tryz.f205,go_sem,seval];refine Zl [2,3,5] (fun k:Nat=> [(6,.p (.int .i64 k))]) (fun _=> [Zf x,XA r]) (fun k=>k<=r.visits.length/\ ∀j,j<k->WJ x (nth r.visits j)=false) (fun k=>r.visits.length-k) 0 Zb (Weak.mk ?_) ?_
 ·simp (disch:=omega) only [Zf,XA,go_sem,seval]
 ·rintro k ⟨hk,hno⟩;refine Ai ?_;refine cD ?_ ?_<;>intro h<;>simp (disch:=omega) only [Sh.out h,go_sem,seval,↓reduceIte]
  ·have hk2:k<r.visits.length:=Za
   refine Xj (Zd ?_);refine gF ?_ ?_<;>intro h2<;>simp (disch:=omega) only [Sh.out h2,go_sem,seval,↓reduceIte]
   ·have:WJ x (nth r.visits k)=true:=by simp [WJ];omega
    rw [Oi,if_pos (VG hk2 this)]
   ·refine Z0 ?_ ?_<;>intro h3
    ·have:WJ x (nth r.visits k)=true:=by simp [WJ];omega
     rw [Oi,if_pos (VG hk2 this)]
    ·exact ⟨k+1,⟨Za,Zr.2 ⟨hno,by simp [WJ];omega⟩⟩,Za,wk⟩
  ·have hkl:k=r.visits.length:=Za
   subst hkl
   have hr1:Oi x r.visits=if r.visits.length=0 then 2 else if (r.visits.any fun v=>(nth x.orders v.order.toNat).off)=true then 9 else if ((List.range r.visits.length).any fun i=>decide (vIx r.visits (nth r.visits i)≠(i:Int)))=true then 6 else if r.visits.all (pairB x.orders r.visits)=false then 19 else if apB x (Xz r.visits)=true then 20 else if x.before.all (QX (Xz r.visits) r.visits)=false then 21 else 0:=by
    rw [Oi,if_neg (by rw [Q6 hno];simp)]
   have hin: ∀j,j<r.visits.length->0<=(nth r.visits j).order/\(nth r.visits j).order<x.orders.length:=fun j hj=>by
    grind [WJ]
   have hmem: ∀v∈r.visits,0<=v.order/\v.order<x.orders.length:=fun v hv=>by
    obtain ⟨j,hj,rfl⟩:=ZU.1 hv
    grind [Zi]
   have hord:Jl r.visits=(((Xz r.visits:Nat):Int),0):=by
    rw [Jl,if_pos]
    grind [Hu]
   have hlt:Xz r.visits<9223372036854775808:=by
    have:=A1 r.visits.length (l:=r.visits) (Zy _) (fun v hv=>by
     grind [Hu])
    grind
   have hoc:=IC r hl;rw [hord] at hoc;refine YU hoc (Zd ?_);refine cD ?_ ?_<;>intro h3<;>simp (disch:=omega) only [Sh.out h3,go_sem,seval]
   ·grind
   ·rw [hr1,if_neg Za];clear hno hr1 h3 h hk;refine Zl [2,5,7] (fun k:Nat=> [(9,.p (.int .i64 k))]) (fun _=> [Zf x,XA r]) (fun k=>k<=r.visits.length/\ ∀j,j<k->(nth x.orders (nth r.visits j).order.toNat).off=false) (fun k=>r.visits.length-k) 0 Zb (Weak.mk ?_) ?_
    ·simp (disch:=omega) only [Zf,XA,go_sem,seval]
    ·rintro k ⟨hk,hno⟩;refine Ai ?_;refine cD ?_ ?_<;>intro h<;>simp (disch:=omega) only [Sh.out h,go_sem,seval,↓reduceIte]
     ·have hk2:k<r.visits.length:=Za
      obtain ⟨i1,i2⟩:=hin k hk2
      have i3:(nth r.visits k).order.toNat<x.orders.length:=Za
      refine Xj (Zd ?_);refine Z0 ?_ ?_<;>intro h4
      ·rw [if_pos (VG hk2 h4)]
      ·exact ⟨k+1,⟨Za,Zr.2 ⟨hno,h4⟩⟩,Za,wk⟩
     ·have hkl:k=r.visits.length:=Za
      subst hkl;have e9:(r.visits.any fun v=>(nth x.orders v.order.toNat).off)=false:=Q6 hno;rw [e9,if_neg Zb];clear hno h hk;refine Zl [2,5,7] (fun k:Nat=> [(10,.p (.int .i64 k))]) (fun _=> [Zf x,XA r]) (fun k=>k<=r.visits.length/\ ∀j,j<k->vIx r.visits (nth r.visits j)=(j:Int)) (fun k=>r.visits.length-k) 0 Zb (Weak.mk ?_) ?_
      ·simp (disch:=omega) only [Zf,XA,go_sem,seval]
      ·rintro k ⟨hk,hno⟩;refine Ai ?_;refine cD ?_ ?_<;>intro h<;>simp (disch:=omega) only [Sh.out h,go_sem,seval,↓reduceIte]
       ·have hk2:k<r.visits.length:=Za
        refine (Qz r.visits r.visits_c (nth r.visits k) hl).use (Zd ?_);refine Z0 ?_ ?_<;>intro h4
        ·have:((List.range r.visits.length).any fun i=>decide (vIx r.visits (nth r.visits i)≠(i:Int)))=true:=by
          grind
         grind
        ·exact ⟨k+1,⟨Za,Zr.2 ⟨hno,Za⟩⟩,Za,wk⟩
       ·have hkl:k=r.visits.length:=Za
        subst hkl
        have:((List.range r.visits.length).any fun i=>decide (vIx r.visits (nth r.visits i)≠(i:Int)))=false:=by
         grind
        rw [this,if_neg Zb];refine (dV x r.visits r.visits_c hl Za hp hmem).use (Zd ?_);refine cD ?_ ?_<;>intro h4<;>simp (disch:=omega) only [Sh.out h4,go_sem,seval,↓reduceIte]
        ·grind
        ·rw [if_neg (by grind)];refine (oC x (Xz r.visits) hlt hap).use (Zd ?_);refine cD ?_ ?_<;>intro h5<;>simp (disch:=omega) only [Sh.out h5,go_sem,seval,↓reduceIte]
         ·grind
         ·rw [if_neg (by grind)];refine (dL x (Xz r.visits) r.visits r.visits_c hlt hl hbe).use (Zd ?_);refine cD ?_ ?_<;>intro h6<;>simp (disch:=omega) only [Sh.out h6,go_sem,seval]
          ·grind
          grind
structure IFacts (x:Inst):Prop where
 len:x.orders.length<=10
 plc:Plc x
 vne:Vne x
 val:Val x.orders.length x.before
 ne: ∀p∈x.before,p.1≠p.2
 aval:Val x.orders.length x.apart
theorem kD {n:Int} {word:List UInt8} {sm:Int×Int->Int×Int->Bool} {l:List (Int×Int)} (h:Jz n word sm l l.length= []): ∀p∈l,cQ n p=true:=by
 intro p hp;obtain ⟨i,hi,rfl⟩:=ZU.1 hp;have h2:=(Ub.1 h).2;rw [List.flatMap_eq_nil_iff] at h2;have h3:=h2 i (by grind)
 grind [SE,Zi]
theorem XP {x:Inst} (h:InstOk x):IFacts x:=by
 have ho:=h.orders;obtain ⟨h1,h2⟩:=Ub.1 h.rules;have ha:=kD h1;have hb:=kD h2
 have hpl:Plc x:=fun o hm=>by
  obtain ⟨i,hi,rfl⟩:=ZU.1 hm;have:=ho.2 i hi;rw [<- Zi hi];exact ⟨this.pick.1,this.drp.1⟩
 have val: ∀l:List (Int×Int),(∀p∈l,cQ x.orders.length p=true)->Val x.orders.length l:=fun l h p hp=>by
  grind [cQ]
 refine ⟨ho.1,hpl,fun i hi=> ?_,val _ hb,fun p hp=> ?_,val _ ha⟩
 ·have h3:=ho.2 i hi;have h4:=hpl _ (Zu hi);have h5:=h3.one
  grind [ZV]
 grind [cQ]
theorem Vf {l:List Vis} {o:Int} :hasO l o=true↔ ∃v∈l,v.order=o:=by simp [hasO]
theorem CX : ∀(l:List Vis) (i:Nat),(Xz l).testBit i=true↔ ∃v∈l,v.order.toNat=i:=by
 have key: ∀(l:List Vis) (s i:Nat),(l.foldl (fun s v=>s|||pw v.order.toNat) s).testBit i=true↔s.testBit i=true\/ ∃v∈l,v.order.toNat=i:=by
  intro l
  induction l with
  | nil=>simp
  | cons v l ih =>
   intro s i;rw [XS,ih,AP,Kw,Vr,Zq,or_assoc];simp
 grind [Xz]
def Inr (x:Inst) (l:List Vis):Prop:= ∀v∈l,0<=v.order/\v.order<x.orders.length
theorem Uw {x:Inst} {l:List Vis} (hi:Inr x l) (hn:x.orders.length<=60) (o:Int) (h:0<=o/\o<=62):nHas (Xz l) o=hasO l o:=by
 rw [Wz,Gm,CX,Vf]
 constructor
 ·rintro ⟨h1,h2,v,hv,h3⟩;have:=hi v hv
  grind
 grind
theorem Jo {l:List Vis} (hd:l.Nodup) {k:Nat} (hk:k<l.length):vIx l (nth l k)=(k:Int):=by
 refine Lw hk Zb fun j hj=> ?_
 grind [Zi,KX]
theorem Fp {l:List Vis} {v:Vis} (h:0<=vIx l v):(vIx l v).toNat<l.length/\nth l (vIx l v).toNat=v:=by
 grind [vIx,HR,V9,Zi]
theorem Zen {l:List Vis} {k:Nat} (hk:k<l.length):0<=vIx l (nth l k)/\vIx l (nth l k)<=(k:Int):=by
 grind [vIx,nth,Zu,HR,V9]
theorem QC {l:List Vis} {v:Vis} {i:Nat} (h:v∈l.take i): ∃j,j<i/\j<l.length/\nth l j=v:=by
 obtain ⟨j,hj,rfl⟩:=ZU.1 h;simp at hj;exact ⟨j,Za,Za,by grind [Zi]⟩
theorem K0 {l:List Vis} {i j:Nat} (h:j<i) (hl:j<l.length):nth l j∈l.take i:=by
 grind [Zi,ZU]
theorem BY {l:List Vis} :Am l=false↔l.Nodup:=by
 rw [Am,Vc]
 constructor
 ·intro h;rw [List.nodup_iff_pairwise_ne,KX];intro i j hi hj hij e;have:=h j (by grind);simp only [Zq,WH] at this;refine this ?_;rw [Zi hj,<- e,<- Zi hi];exact K0 hij hi
 ·intro h j hj;simp only [Zq,WH]
  grind [QC,Jo]
theorem eX {l:List Vis} :((List.range l.length).any fun i=>decide (vIx l (nth l i)≠(i:Int)))=Am l:=by
 rw [Wz]
 constructor
 ·grind [Jo,BY]
 ·intro h;rw [Am,Wl] at h;obtain ⟨j,hj,h2⟩:=h;simp only [Zq,WH] at h2;obtain ⟨i,h3,h4,h5⟩:=QC h2
  grind
def BK (l:List Vis) (b:Int):Int:=HR (fun v=>decide (v.order=b)) l
theorem AZ {l:List Vis} {b:Int} :0<=BK l b↔ ∃v∈l,v.order=b:=by
 grind [PS,BK]
theorem CV {l:List Vis} {b:Int} (h:0<=BK l b):(BK l b).toNat<l.length/\(nth l (BK l b).toNat).order=b/\ ∀j,j<(BK l b).toNat->(nth l j).order≠b:=by
 unfold BK HR at h ⊢
 grind [V9,Zi]
theorem mP {l:List Vis} {b:Int} {k:Nat} (hk:k<l.length) (h:(nth l k).order=b):0<=BK l b/\BK l b<=(k:Int):=by
 have h0:0<=BK l b:=AZ.2 ⟨_,Zu hk,h⟩;refine ⟨h0,?_⟩;obtain ⟨h1,h2,h3⟩:=CV h0
 grind
theorem Ur {l:List Vis} {a b:Int} :beforeB l a b=true↔(0<=BK l b->(∃v∈l,v.order=a)/\ ∀j,j<l.length->(nth l j).order=a->(j:Int)<BK l b):=by
 unfold beforeB;rw [show HR (fun v=>decide (v.order=b)) l=BK l b from rfl]
 by_cases h:BK l b<0
 ·grind
 ·rw [if_neg h,Zv,Vf]
  have h0:0<=BK l b:=Za
  obtain ⟨h1,h2,h3⟩:=CV h0
  have hd:(!hasO (l.drop (BK l b).toNat) a)=true↔ ∀j,j<l.length->(nth l j).order=a->(j:Int)<BK l b:=by
   rw [XN,<- UN,Vf]
   constructor
   ·intro hno j hj e;rcases Int.lt_or_le (j:Int) (BK l b) with h4 | h4
    ·exact h4
    ·refine absurd ⟨nth l j,?_,e⟩ hno;rw [Zi hj];exact ZU.2 ⟨j-(BK l b).toNat,by simp;omega,by grind⟩
   ·rintro hall ⟨v,hv,e⟩;obtain ⟨j,hj,rfl⟩:=ZU.1 hv
    grind [Zi]
  grind
theorem Pv {x:Inst} {l:List Vis} (hi:Inr x l) (hn:x.orders.length<=60) {p:Int×Int} (h1:0<=p.1/\p.1<x.orders.length) (h2:0<=p.2/\p.2<x.orders.length) (hne:p.1≠p.2):QX (Xz l) l p=beforeB l p.1 p.2:=by
 rw [Wz,Ur,QX,Uw hi hn _ Za,Uw hi hn _ Za];simp only [Vr,XN,Zv];rw [<- UN,Vf,Vf,<- AZ,<- AZ (b:=p.1)]
 constructor
 ·rintro (h | ⟨h3,h4⟩) h0
  ·omega
  ·refine ⟨h3,fun j hj e=> ?_⟩;rw [ZD] at h4;have h5:=h4 j (by grind);rw [ZD] at h5;obtain ⟨g1,g2,g3⟩:=CV h0;rcases Int.lt_or_le (j:Int) (BK l p.2) with h6 | h6
   ·exact h6
   ·have hne2:j≠(BK l p.2).toNat:=fun e2=>hne (by grind);have:=h5 (BK l p.2).toNat (by simp;omega)
    grind [KA]
 ·intro h
  by_cases h0:0<=BK l p.2
  ·obtain ⟨h3,h4⟩:=h h0;refine .inr ⟨h3,?_⟩;rw [ZD];intro j hj;rw [ZD];intro k hk;simp at hj hk
   cases hb:KA l p.1 p.2 j k with
   | false=>rfl
   | true =>
    simp [KA] at hb;have h5:=h4 j hj hb.1;have h6:=(mP Za hb.2).2;omega
  omega
theorem vE {x:Inst} (hf:IFacts x) (l:List Vis):Oi x l=Xf x l:=by
 by_cases ho:l.any (WJ x)=true
 ·simp_all [Oi,Xf]
 ·have ho':l.any (WJ x)=false:=by grind
  have hi:Inr x l:=fun v hv=>by
   grind [WJ]
  have hn:x.orders.length<=60:=by have:=hf.len;omega
  rw [Oi,if_neg ho,Xf]
  by_cases h0:l.length=0
  ·omega
  ·have hc: ¬(l.length=0\/l.any (WJ x)=true):=fun h=>h.elim h0 ho;rw [if_neg h0,if_neg hc,eX]
   have e1:apB x (Xz l)=x.apart.any fun p=>hasO l p.1&&hasO l p.2:=by
    rw [apB,Wz,Wl,Wl]
    have: ∀p∈x.apart,(nHas (Xz l) p.1&&nHas (Xz l) p.2)=(hasO l p.1&&hasO l p.2):=fun p hp=>by
     have:=hf.aval p hp
     grind [Uw]
    grind
   have e2:(x.before.all (QX (Xz l) l)=false)=((x.before.any fun p=> !beforeB l p.1 p.2)=true):=by
    have: ∀p∈x.before,QX (Xz l) l p=beforeB l p.1 p.2:=fun p hp=>by
     have:=hf.val p hp;exact Pv hi hn Za Za (hf.ne p hp)
    grind
   grind
structure RightV (x:Inst) (l:List Vis):Prop where
 ne:l≠ []
 inr:Inr x l
 off: ∀v∈l,(nth x.orders v.order.toNat).off=false
 nodup:l.Nodup
 pair: ∀v∈l,pairB x.orders l v=true
 apart: ∀p∈x.apart,¬(hasO l p.1=true/\hasO l p.2=true)
 before: ∀p∈x.before,beforeB l p.1 p.2=true
theorem dR {x:Inst} {l:List Vis} :Xf x l=0↔RightV x l:=by
 unfold Xf;rw [VN Za,VN Za,VN Za,VN Za,VN Za,VN Za];simp only [and_true,UN,BY]
 have hin:l.any (WJ x)=false↔Inr x l:=by
  rw [Vc];exact ⟨fun h v hv=>by grind [WJ],fun h v hv=>by simpa [WJ] using h v hv⟩
 constructor
 ·rintro ⟨h1,h2,h3,h4,h5,h6⟩;rw [not_or,UN,hin] at h1;rw [Vc] at h2 h5 h6;refine ⟨fun e=>h1.1 (by rw [e];rfl),h1.2,fun v hv=>by grind,h3,?_,fun p hp=>by grind,fun p hp=>by grind⟩
  grind
 ·intro h;refine ⟨?_,?_,h.nodup,?_,?_,?_⟩
  ·rw [not_or,UN,hin];exact ⟨fun e=>h.ne (YE e),h.inr⟩
  ·rw [Vc];intro v hv;simp [h.off v hv]
  ·rw [ZD.2 h.pair];simp
  ·rw [Vc];intro p hp;simpa using h.apart p hp
  ·rw [Vc];intro p hp;simpa using h.before p hp
theorem Iu {os:List Ord} {l:List Vis} {v:Vis} {i:Nat} (h:v.order=(i:Int)):pairB os l v=true↔v∈ZV os i/\(∀w∈ZV os i,w∈l)/\((⟨i,false⟩:Vis)∈ZV os i->(⟨i,true⟩:Vis)∈ZV os i->vIx l ⟨i,false⟩<vIx l ⟨i,true⟩):=by
 rw [pairB,h,XD,Zv,Zq,WH];refine and_congr Iff.rfl ?_
 have hm: ∀w:Vis,-1<vIx l w↔w∈l:=fun w=>by grind [WH]
 rcases Kx os i with e | e | e | e<;>rw [e]
 ·simp [Q7]
 ·simp [Q7,hm]
 ·simp [Q7,hm]
 ·simp only [Q7,QR,Zv,Zq,hm,Z7,Vd,Wi,forall_eq_or_imp,forall_eq]
  grind
section
variable {x : Inst} {l : List Vis}
theorem RightV.bit (h:RightV x l) (i:Nat):(Xz l).testBit i=true↔ ∃v∈l,v.order=(i:Int):=by
 rw [CX];exact ⟨fun ⟨v,hv,e⟩=>⟨v,hv,by have:=h.inr v hv;omega⟩,fun ⟨v,hv,e⟩=>⟨v,hv,Za⟩⟩
theorem RightV.lt (h:RightV x l) (hf:IFacts x):Xz l<9223372036854775808/\Xz l / pw x.orders.length=0:=by
 have h1:Xz l<9223372036854775808:=by
  have:=A1 l.length (l:=l) (Zy _) (fun v hv=>by
   rw [X1] at hv;have:=h.inr v hv;have:=hf.len
   simp [Hu];omega)
  grind
 refine ⟨h1,aK h1 fun j _ hj=> ?_⟩;obtain ⟨v,hv,e⟩:=(h.bit j).1 hj;have:=h.inr v hv;omega
theorem RightV.ord (h:RightV x l) (hf:IFacts x):Jl l=(((Xz l:Nat):Int),0):=by
 rw [Jl,if_pos];rw [ZD];intro v hv;have:=h.inr v hv;have:=hf.len;simp [Hu];omega
theorem RightV.pairs (h:RightV x l) {v:Vis} (hv:v∈l): ∃i:Nat,v.order=(i:Int)/\i<x.orders.length/\v∈ZV x.orders i/\(∀w∈ZV x.orders i,w∈l)/\((⟨i,false⟩:Vis)∈ZV x.orders i->(⟨i,true⟩:Vis)∈ZV x.orders i->vIx l ⟨i,false⟩<vIx l ⟨i,true⟩):=by
 have h1:=h.inr v hv
 have e:v.order=(v.order.toNat:Int):=Za
 exact ⟨v.order.toNat,e,Za,(Iu e).1 (h.pair v hv)⟩
theorem RightV.step (h:RightV x l) {a b:Nat} (hE:Ed x.before a b) (hb:0<=BK l b):0<=BK l a/\BK l a<BK l b:=by
 obtain ⟨p,hp,e1,e2⟩:=hE;have hbe:=Ur.1 (h.before p hp);rw [e1,e2] at hbe;obtain ⟨h1,h2⟩:=hbe hb;have h0:=AZ.2 h1;obtain ⟨g1,g2,_⟩:=CV h0
 grind
theorem RightV.chain (h:RightV x l) {a b:Nat} (hc:Ch x.before a b) (hb:0<=BK l b):0<=BK l a/\BK l a<BK l b:=by
 induction hc with
 | one hE=>exact h.step hE hb
 | more _ hE ih =>
  have h1:=h.step hE hb;omega
theorem RightV.alw (h:RightV x l) (hf:IFacts x):Alw x (Xz l):=by
 have hn:x.orders.length<=60:=by have:=hf.len;omega
 refine ⟨fun i hi hb=> ?_,?_,fun p hp hb=> ?_,fun i hi hb hc=> ?_⟩
 ·obtain ⟨v,hv,e⟩:=(h.bit i).1 hb;have:=h.off v hv
  grind
 ·rw [apB,Vc];intro p hp;have hv:=hf.aval p hp;rw [Uw h.inr hn _ Za,Uw h.inr hn _ Za,Zv];exact h.apart p hp
 ·have hv:=hf.val p hp;rw [Uw h.inr hn _ Za] at hb ⊢;rw [Vf] at hb ⊢;exact (Ur.1 (h.before p hp) (AZ.2 hb)).1
 ·have hb2:=AZ.2 ((h.bit i).1 hb);have:=(h.chain hc hb2).2;omega
theorem RightV.gr (h:RightV x l) (hf:IFacts x): ∀k,k<=l.length->Gr x (Xz l) (l.take k)
 | 0,_=>by simpa using Gr.nil
 | k+1,hk=>by
  have hk2:k<l.length:=Za
  have ih:=h.gr hf k Za
  have e:l.take (k+1)=l.take k++ [nth l k]:=by rw [X3 hk2,Zi hk2]
  rw [e];obtain ⟨i,e1,hi,h1,h2,h3⟩:=h.pairs (Zu hk2);refine .snoc ih (VR.2 ⟨i,hi,(h.bit i).2 ⟨_,Zu hk2,e1⟩,?_,h1,(Vt h1).2 ⟨?_,?_,?_⟩⟩)
  ·have:=h.off _ (Zu hk2)
   grind
  ·intro hm;obtain ⟨j,j1,j2,j3⟩:=QC hm;have q1:=Jo h.nodup j2;have q2:=Jo h.nodup hk2
   grind
  ·intro hd hq
   have e2:nth l k=⟨i,true⟩:=by rw [Ef];grind
   have h4:=h3 hq (by grind);rw [<- e2,Jo h.nodup hk2] at h4;have h5:=WH.2 (h2 _ hq);obtain ⟨g1,g2⟩:=Fp h5;rw [<- g2];exact K0 Za g1
  ·intro p hp hpe w hw;obtain ⟨v1,v2,v3,v4⟩:=hf.val p hp;have hoi:=mP hk2 e1;have hbe:=Ur.1 (h.before p hp);rw [hpe] at hbe;obtain ⟨⟨v,hv,ev⟩,h5⟩:=hbe hoi.1;obtain ⟨a,a1,a2,a3,a4,a5⟩:=h.pairs hv
   have:a=p.1.toNat:=Za
   subst this;have hwl:=a4 w hw;obtain ⟨g1,g2⟩:=Fp (WH.2 hwl);have h6:=h5 _ g1 (by rw [g2,Yk hw];omega);rw [<- g2];exact K0 Za g1
theorem RightV.len (h:RightV x l) (hf:IFacts x):l.length=Ak x (Xz l) x.orders.length:=by
 have h1:=h.gr hf l.length (Zy _);rw [X1] at h1;have h2:=h1.len
 have h3: ∀v∈Bw x (Xz l) x.orders.length,v∈l:=fun v hv=>by
  obtain ⟨i,i1,i2,i3⟩:=WT.1 hv;obtain ⟨w,hw,e⟩:=(h.bit i).1 i2;obtain ⟨a,a1,a2,a3,a4,a5⟩:=h.pairs hw
  grind
 have h4:=Fo (Bx _ _ _) h3;rw [Jr] at h4;omega
theorem Gr.at {S:Nat} (h:Gr x S l): ∀k,k<l.length->nth l k∈nextU x S (l.take k) x.orders.length:=by
 induction h with
 | nil=>simp
 | snoc h hv ih =>
  rename_i l v;intro k hk;simp at hk;rcases Wm k l.length with h2 | h2
  ·grind [Zi]
  ·have:k=l.length:=Za
   simp_all [Zi]
theorem Gr.right {S:Nat} (h:Gr x S l) (hf:IFacts x) (ha:Alw x S) (h0:S≠0) (hS:S / pw x.orders.length=0) (hl:l.length=Ak x S x.orders.length):RightV x l/\Xz l=S:=by
 have hn:x.orders.length<=60:=by have:=hf.len;omega
 have hfull:=h.full hl
 have hsub: ∀v∈l,∃i:Nat,v.order=(i:Int)/\i<x.orders.length/\S.testBit i=true/\v∈ZV x.orders i:=fun v hv=>by
  obtain ⟨i,i1,i2,i3⟩:=WT.1 (h.sub v hv);exact ⟨i,Yk i3,i1,i2,i3⟩
 have hinr:Inr x l:=fun v hv=>by grind
 have hgo: ∀k,k<l.length-> ∃i:Nat,(nth l k).order=(i:Int)/\nth l k∈ZV x.orders i/\nth l k ∉ l.take k/\((nth l k).drp=true->(⟨i,false⟩:Vis)∈ZV x.orders i->(⟨i,false⟩:Vis)∈l.take k)/\ ∀p∈x.before,p.2=(i:Int)-> ∀w∈ZV x.orders p.1.toNat,w∈l.take k:=fun k hk=>by
  obtain ⟨i,i1,i2,i3,i4,i5⟩:=VR.1 (h.at k hk);obtain ⟨r1,r2,r3⟩:=(Vt i4).1 i5;exact ⟨i,Yk i4,i4,r1,r2,r3⟩
 have hbit:Xz l=S:=CI fun i=>by
  rw [Wz,CX]
  constructor
  ·grind
  ·intro hb;have hi:=PE hS hb;obtain ⟨w,hw⟩:=List.exists_mem_of_ne_nil _ (hf.vne i hi);have:=Yk hw;exact ⟨w,hfull w (WT.2 ⟨i,hi,hb,hw⟩),Za⟩
 refine ⟨⟨fun e=> ?_,hinr,fun v hv=> ?_,h.nodup,fun v hv=> ?_,fun p hp=> ?_,fun p hp=> ?_⟩,hbit⟩
 ·have:=TJ hf.vne hS h0
  grind
 ·obtain ⟨i,i1,i2,i3,i4⟩:=hsub v hv;rw [i1,XD];exact ha.off i i2 i3
 ·obtain ⟨i,i1,i2,i3,i4⟩:=hsub v hv;refine (Iu i1).2 ⟨i4,fun w hw=>hfull w (WT.2 ⟨i,i2,i3,hw⟩),fun hq1 hq2=> ?_⟩;have m2:=WH.2 (hfull _ (WT.2 ⟨i,i2,i3,hq2⟩));obtain ⟨g1,g2⟩:=Fp m2;obtain ⟨j,j1,j2,j3,j4,j5⟩:=hgo _ g1;rw [g2] at j1 j4
  have:j=i:=by grind
  subst this;obtain ⟨q,q1,q2,q3⟩:=QC (j4 rfl hq1);have:=(Zen q2).2
  grind
 ·have:=ha.apart;rw [apB,Vc] at this;have h2:=this p hp;have hv:=hf.aval p hp;rw [<- hbit,Uw hinr hn _ Za,Uw hinr hn _ Za,Zv] at h2;exact h2
 ·rw [Ur];intro hb;have hv:=hf.val p hp;obtain ⟨g1,g2,g3⟩:=CV hb;obtain ⟨j,j1,j2,j3,j4,j5⟩:=hgo _ g1;have hall:=j5 p hp Za;refine ⟨?_,fun q hq e=> ?_⟩
  ·obtain ⟨w,hw⟩:=List.exists_mem_of_ne_nil _ (hf.vne p.1.toNat Za);exact ⟨w,Km (hall w hw),by rw [Yk hw];omega⟩
  ·obtain ⟨i,i1,i2,i3,i4⟩:=hsub _ (Zu hq)
   have:i=p.1.toNat:=Za
   subst this;obtain ⟨q2,r1,r2,r3⟩:=QC (hall _ i4);have e1:=Jo h.nodup r2;have e2:=Jo h.nodup hq
   grind
end
theorem So {a b:Int} :W0 a b<0↔a<b:=by grind [W0]
def Zd2 (r:Rte):Prop:=r.visits.length<=1048576/\r.rests.length<=1048576
end Go.Proofs.YtjkkdmeebhjaiaaGreatDoor.K
namespace Go.Proofs.YtjkkdmeebhjaiaaGreatDoor.K
section
variable {L : Type} (fin : L -> Int) (beats : L -> L -> Bool) (nxt : Nat -> L -> Bool -> Option L) (choices : Nat -> List Bool)
def Va : Option L->List L->Option L
 | b,[]=>b
 | none,x::l=>Va (some x) l
 | some m,x::l=>if fin x<fin m then Va (some x) l else Va (some m) l
theorem AA : ∀(b:Option L) (l r:List L),Va fin b (l++r)=Va fin (Va fin b l) r
 | b,[],r=>by rfl
 | none,x::l,r=>by rw [ZR,Va,Va,AA]
 | some m,x::l,r=>by
  rw [ZR,Va,Va]
  split
  ·rw [AA]
  ·rw [AA]
theorem VK : ∀(l:List L) (m:L),∃z,Va fin (some m) l=some z/\fin z<=fin m/\ ∀y∈l,fin z<=fin y
 | [],m=>⟨m,rfl,Za,Zb⟩
 | x::l,m=>by
  rw [Va]
  split
  ·rename_i h;obtain ⟨z,e,h1,h2⟩:=VK l x
   grind
  ·rename_i h;obtain ⟨z,e,h1,h2⟩:=VK l m
   grind
theorem Nw : ∀(l:List L) (m:L),(∀y∈l,fin m<=fin y)->Va fin (some m) l=some m
 | [],m,_=>rfl
 | x::l,m,h=>by
  have:=h x List.mem_cons_self;rw [Va,if_neg Za];exact Nw l m fun y hy=>h y (Yo _ hy)
theorem bG (A B:List L) (h: ∀y∈B,∃z∈A,fin z<=fin y):Va fin none (A++B)=Va fin none A:=by
 rw [AA]
 cases A with
 | nil=>cases B with
  | nil=>rfl
  | cons y B=>grind [List.mem_cons_self]
 | cons a A =>
  rw [Va];obtain ⟨z,e,h1,h2⟩:=VK fin A a;rw [e];refine Nw fin B z fun y hy=> ?_
  grind
def Yc : List L->List L->List L
 | out,[]=>out
 | out,x::l=>if out.any (fun m=>beats m x)=true then Yc out l else Yc (out++ [x]) l
theorem DF {R:L->List L} : ∀(c out:List L),(∀x∈out++c,∀m∈out++c,beats m x=true-> ∀y∈R x,∃z∈R m,fin z<=fin y)->Va fin none ((Yc beats out c).flatMap R)=Va fin none ((out++c).flatMap R)
 | [],out,_=>by simp [Yc]
 | x::c,out,h=>by
  rw [Yc]
  split
  ·rename_i hb;obtain ⟨m,hm,hb⟩:=Wl.1 hb
   have hb:beats m x=true:=by simpa using hb
   rw [DF c out (fun a ha b hb=>h a (by simp only [Xe,Z7] at ha ⊢;rcases ha with h | h<;>simp [h]) b (by simp only [Xe,Z7] at hb ⊢;rcases hb with h | h<;>simp [h]))];rw [List.flatMap_append,List.flatMap_append,UM,<- Vq,AA,AA (l:=out.flatMap R++R x)];rw [bG fin (out.flatMap R) (R x)];intro y hy;obtain ⟨z,hz,hle⟩:=h x Zb m (by simp [hm]) hb y hy;exact ⟨z,X0.2 ⟨m,hm,hz⟩,hle⟩
  ·rw [DF c (out++ [x]) (by simpa using h)];simp
theorem A4 : ∀(c out:List L),∀x∈Yc beats out c,x∈out++c
 | [],out,x,h=>by grind [Yc]
 | a::c,out,x,h=>by
  rw [Yc] at h
  split at h
  ·have:=A4 c out x h;simp only [Xe,Z7] at this ⊢;rcases this with h | h<;>simp [h]
  ·have:=A4 c (out++ [a]) x h;simpa using this
def Lv : Nat->Nat->List (List Bool)
 | 0,_=> [[]]
 | j+1,k=>(choices k).flatMap fun b=>(Lv j (k+1)).map (b:: ·)
def Wd : Nat->L->List Bool->Option L
 | _,x,[]=>some x
 | k,x,b::bs=>match nxt k x b with
  | some y=>Wd (k+1) y bs
  | none=>none
def VT (j k:Nat) (x:L):List L:=(Lv choices j k).filterMap (Wd nxt k x)
def Vx (k:Nat) (l:List L):List L:=l.flatMap fun x=>(choices k).filterMap (nxt k x)
def Kz : Nat->Nat->List L->List L
 | 0,_,l=>l
 | j+1,k,l=>Kz j (k+1) (Yc beats [] (Vx nxt choices k l))
theorem RB (k:Nat) (x:L):VT nxt choices 0 k x= [x]:=rfl
theorem GG (j k:Nat) (x:L):VT nxt choices (j+1) k x=((choices k).filterMap (nxt k x)).flatMap (VT nxt choices j (k+1)):=by
 unfold VT;rw [Lv]
 induction choices k with
 | nil=>rfl
 | cons b bs ih =>
  rw [UM,List.filterMap_append,ih,List.filterMap_cons]
  cases h:nxt k x b with
  | none =>
   simp_all [Wd]
  | some y =>
   rw [List.filterMap_map]
   have:(Wd nxt k x∘fun l=>b::l)=Wd nxt (k+1) y:=by grind [Wd]
   grind
theorem Iz {n:Nat} {Inv:Nat->L->Prop} (hI: ∀k x b y,Inv k x->nxt k x b=some y->Inv (k+1) y) (hd: ∀k m x b y,Inv k m->Inv k x->beats m x=true->nxt k x b=some y-> ∃z,nxt k m b=some z/\beats z y=true)
  (he: ∀m x,Inv n m->Inv n x->beats m x=true->fin m<=fin x): ∀(j k:Nat) (m x:L),k+j=n->Inv k m->Inv k x->beats m x=true-> ∀y∈VT nxt choices j k x,∃z∈VT nxt choices j k m,fin z<=fin y
 | 0,k,m,x,hk,h1,h2,hb,y,hy=>by
  grind [RB]
 | j+1,k,m,x,hk,h1,h2,hb,y,hy=>by
  rw [GG] at hy ⊢;obtain ⟨q,hq,hy⟩:=X0.1 hy;obtain ⟨b,hbm,hn⟩:=Qp.1 hq;obtain ⟨z,hz,hzb⟩:=hd k m x b q h1 h2 hb hn;obtain ⟨u,hu,hle⟩:=Iz hI hd he j (k+1) z q Za (hI k m b z h1 hz) (hI k x b q h2 hn) hzb y hy
  grind
theorem SV {n:Nat} {Inv:Nat->L->Prop} (hI: ∀k x b y,Inv k x->nxt k x b=some y->Inv (k+1) y) (hd: ∀k m x b y,Inv k m->Inv k x->beats m x=true->nxt k x b=some y-> ∃z,nxt k m b=some z/\beats z y=true)
  (he: ∀m x,Inv n m->Inv n x->beats m x=true->fin m<=fin x): ∀(j k:Nat) (l:List L),k+j=n->(∀x∈l,Inv k x)->Va fin none (Kz beats nxt choices j k l)=Va fin none (l.flatMap (VT nxt choices j k))
 | 0,k,l,hk,hl=>by
  have:l.flatMap (VT nxt choices 0 k)=l:=by
   have:VT nxt choices 0 k=fun x=> [x]:=by rfl
   rw [this];simp
  rw [this];rfl
 | j+1,k,l,hk,hl=>by
  have hc: ∀x∈Vx nxt choices k l,Inv (k+1) x:=fun x hx=>by
   obtain ⟨q,hq,hx⟩:=X0.1 hx
   grind
  have e:l.flatMap (VT nxt choices (j+1) k)=(Vx nxt choices k l).flatMap (VT nxt choices j (k+1)):=by
   rw [Vx,List.flatMap_assoc]
   congr 1
   grind [GG]
  rw [Kz,SV hI hd he j (k+1) _ Za (fun x hx=>hc x (by simpa using A4 beats _ _ x hx)),DF fin beats _ _ (fun x hx m hm hb y hy=> ?_),e]
  ·simp
  ·exact Iz fin beats nxt choices hI hd he j (k+1) m x Za (hc m (by grind)) (hc x (by grind)) hb y hy
def Y4 : List Bool->List (List Bool)
 | []=> [[]]
 | b::bs=>if b then (Y4 bs).map (true:: ·) else (Y4 bs).map (false:: ·)++(Y4 (List.replicate bs.length false)).map (true:: ·)
termination_by l => l.length
decreasing_by all_goals simp
def Yz : List Bool->Option (List Bool)
 | []=>none
 | b::bs=>match Yz bs with
  | some l=>some (b::l)
  | none=>if b then none else some (true::List.replicate bs.length false)
theorem fromB_next : ∀l:List Bool,Y4 l=l::(match Yz l with | some r=>Y4 r | none=> [])
 | []=>by simp [Y4,Yz]
 | b::bs=>by
  have ih:=fromB_next bs
  have e0: ∀l:List Bool,Y4 (true::l)=(Y4 l).map (true:: ·):=fun l=>by rw [Y4];simp
  have e1: ∀l:List Bool,Y4 (false::l)=(Y4 l).map (false:: ·)++(Y4 (List.replicate l.length false)).map (true:: ·):=fun l=>by rw [Y4];simp
  cases b with
  | true =>
   rw [e0,ih,Yz]
   cases h:Yz bs with
   | none=>simp
   | some r=>simp [e0]
  | false =>
   rw [e1,ih,Yz]
   cases h:Yz bs with
   | none=>simp [e0]
   | some r =>
    have hl:r.length=bs.length:=nlen bs r h;simp [e1,hl]
where nlen : ∀(l r:List Bool),Yz l=some r->r.length=l.length
 | [],r,h=>by simp [Yz] at h
 | b::bs,r,h=>by
  rw [Yz] at h
  cases h2:Yz bs with
  | none =>
   grind
  | some q =>
   rw [h2] at h;simp at h;subst h;simp [nlen bs q h2]
theorem Nm {n:Nat} : ∀(j k:Nat),(∀q,k<=q->choices q= [false,true])->Lv choices j k=Y4 (List.replicate j false)
 | 0,k,_=>by simp [Lv,Y4]
 | j+1,k,h=>by
  rw [Lv,h k (Zy _),Nm (n:=n) j (k+1) (fun q hq=>h q Za),KY,Y4];simp
end
end Go.Proofs.YtjkkdmeebhjaiaaGreatDoor.K
